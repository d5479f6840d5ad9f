/- Walks of functions, plain laws, the table. -/
import Derived.Test.YtgffeapobcfigaaGreatDoorHF
import Derived.Test.YtgffeapobcfigaaGreatDoorHV
import Derived.Test.YtgffeapobcfigaaGreatDoorHH
import Derived.Test.YtgffeapobcfigaaGreatDoorHT
import Derived.KernelRfl
import Derived.Test.YtgffeapobcfigaaGreatDoorHD
import Derived.Carry
import Derived.Lib.SmallJoins
import Derived.Deep.Slices
import Derived.Deep.Fields
import Derived.SizedLaws
import Derived.Lib.LaidTab
set_option linter.all false
section
set_option maxRecDepth 100000
namespace Go.A.Pk
variable {T : Nat → Option AFunc}
structure Rd where
  id : Int
  known : Int
  kind : Nat
  cells : List Nat
  of : Int
  deriving DecidableEq
structure IsR (r : Rd) : Prop where
  cells : IsS r.cells
  kind : r.kind < 256
def rdL (r : Rd) : List Value := .int .i64 r.id :: .int .i64 r.known :: .int .u8 (r.kind : Nat) :: (us r.cells ++ [.int .i64 r.of])
def rdV (r : Rd) : Value := .agg (rdL r).toArray
theorem rdL_length {r : Rd} (h : IsR r) : (rdL r).length = 12 := by
  simp [rdL, us_length, h.cells.len]
theorem rdL_of {r : Rd} (h : IsR r) : lget (rdL r) (0 + 11) = some (.int .i64 r.of) := by
  rw [lget_eq]
  show ((us r.cells ++ [Value.int .i64 r.of]))[8]? = _
  rw [List.getElem?_append_right (by rw [us_length, h.cells.len]; omega), us_length, h.cells.len]; rfl
theorem rdL_cells {r : Rd} (h : IsR r) : ltake 8 (ldrop (0 + 3) (rdL r)) = us r.cells := by
  rw [ltake_eq, ldrop_eq]
  show (us r.cells ++ [Value.int .i64 r.of]).take 8 = _
  rw [List.take_append_of_le_length (by rw [us_length, h.cells.len]; omega), List.take_of_length_le (by rw [us_length, h.cells.len]; omega)]
theorem rdL_all {r : Rd} (h : IsR r) : ltake 12 (ldrop 0 (rdL r)) = rdL r := by
  rw [ltake_eq, ldrop_eq, List.drop_zero, List.take_of_length_le (by rw [rdL_length h]; omega)]
theorem rdL_llen {r : Rd} (h : IsR r) : Nat.beq (llen (rdL r)) 12 = true := by rw [llen_eq, rdL_length h]; rfl
theorem ones_app : ∀ {a b : List Value}, ones a = true → ones b = true → ones (a ++ b) = true
  | [], _, _, h => h
  | v :: a, b, h1, h2 => by
    rw [List.cons_append]
    cases v <;> first | (simp only [ones] at h1; cases h1; done) | (simp only [ones] at h1 ⊢; exact ones_app h1 h2)
theorem rdL_ones (r : Rd) : ones (rdL r) = true := by
  show ones (us r.cells ++ [.int .i64 r.of]) = true
  exact ones_app (us_ones _) rfl
def ckOk (r : Rd) : Bool := (inR r.id 1 1000000 && inR r.known 0 100000) &&
  ((decide (r.kind = 1) || decide (r.kind = 2)) && (!decide (r.cells = s0) && decide (r.of = 0)) || decide (r.kind = 3) && (decide (r.cells = s0) && inR r.of 1 1000000))
def ckR (r : Rd) : Int := if ckOk r then 0 else 1
structure FnsRd (T : Nat → Option AFunc) : Prop where
  p : primAS T
  f47 : T 47 = some f47
  f106 : T 106 = some f106
  f90 : T 90 = some f90
theorem m_eqI {k : IntKind} {a : Nat} {b : Int} {c : Nat} (hb : b = (c : Int)) : numOp .eql (.int k (a : Nat)) (.int k b) = some (.bool (decide (a = c))) := by
  subst hb
  rw [m_eql]
  by_cases h : a = c
  · subst h; simp
  · rw [decide_eq_false h]
    have : ((a : Int) == (c : Int)) = false := by simp; omega
    rw [this]
theorem m_eqO {a : Int} : numOp .eql (.int .i64 a) (.int .i64 0) = some (.bool (decide (a = 0))) := by
  rw [m_eql]
  by_cases h : a = 0
  · subst h; simp
  · rw [decide_eq_false h]
    have : (a == 0) = false := by simpa using h
    rw [this]
set_option maxHeartbeats 4000000 in
theorem check47 (F : FnsRd T) {h : Heap} (hr : Rdy h) {r : Rd} (hR : IsR r) : Pu T 47 [rdV r] h (.int .i64 (ckR r)) := by
  refine .of F.p F.f47 hr rfl ?_
  have k3 := rdL_cells hR
  have k8 := us_llen hR.cells.len
  have k11 := rdL_of hR
  have W := hr.wf.push (.cells (cellsOf (rdV r)) true 1)
  have C := fun n a b => in106 F.p F.f106 (.of W) n a b
  have C2 := empty90 F.p F.f90 (.of W) hR.cells
  have m0 : numOp .eql (.int .i64 r.of) (.int .i64 0) = _ := m_eqO
  have m1 : numOp .eql (.int .u8 (r.kind : Nat)) (.int .u8 1) = _ := m_eqI (c := 1) rfl
  have m2 : numOp .eql (.int .u8 (r.kind : Nat)) (.int .u8 2) = _ := m_eqI (c := 2) rfl
  have m3 : numOp .eql (.int .u8 (r.kind : Nat)) (.int .u8 3) = _ := m_eqI (c := 3) rfl
  unfold ckR ckOk
  generalize hc1 : decide (r.kind = 1) = c1 at m1 ⊢
  generalize hc2 : decide (r.kind = 2) = c2 at m2 ⊢
  generalize hc3 : decide (r.kind = 3) = c3 at m3 ⊢
  generalize decide (r.of = 0) = c0 at m0 ⊢
  generalize decide (r.cells = s0) = ce at C2 ⊢
  have D1 := C r.id 1 1000000
  have D2 := C r.known 0 100000
  have D3 := C r.of 1 1000000
  clear C
  generalize inR r.id 1 1000000 = d1 at D1 ⊢
  generalize inR r.known 0 100000 = d2 at D2 ⊢
  generalize inR r.of 1 1000000 = d3 at D3 ⊢
  refine y4 ?_; refine yB ?_; refine yM ?_; refine y3 ?_
  refine wE_cutE (E := [(1, .pointer (some ⟨h.next, 0, none⟩)), (3, .bool (d1 && d2))]) (H := h.push (.cells (cellsOf (rdV r)) true 1)) ?_ ?_
  · refine wE_region ?_; refine yF ?_; refine yL ?_
    refine yC ?_
    refine FW.pu D1 ?_
    cases d1 with
    | false =>
      refine yM ?_; refine yP ?_; refine yP ?_; refine yP ?_; refine yU ?_; refine yM ?_; refine wO_nil ?_; refine y1 ?_
      exact ⟨rfl, rfl, rfl, rfl⟩
    | true =>
      refine yM ?_; refine yO ?_; refine yF ?_; refine yO ?_
      refine yL ?_; refine yO ?_
      refine yC ?_
      refine FW.pu D2 ?_
      refine yT ?_; refine yM ?_; refine wO_nil ?_; refine y1 ?_
      exact ⟨rfl, rfl, rfl, rfl⟩
  clear D1 D2
  generalize (d1 && d2) = ok
  refine wE_cutE (E := [(3, .bool (ok && ((c1 || c2) && (!ce && c0) || c3 && (ce && d3))))]) (H := h.push (.cells (cellsOf (rdV r)) true 1)) ?_ ?_
  · cases hh1 : c1 with
    | true =>
      subst hh1
      have : c3 = false := by rw [← hc3, of_decide_eq_true hc1]; rfl
      subst this
      cases ok with
      | false =>
        refine y4 ?_; refine yF ?_; refine yL ?_; refine y3 ?_; refine wE_block ?_; refine wE_seq ?_; refine y4 ?_; refine wO_val (a_num (by exact rfl) (by exact rfl) (by with_reducible assumption)) ?_; refine yM ?_; refine y3 ?_; refine yY ?_; refine wE_skip ?_; refine kS_n ?_; refine yY ?_; refine wE_region ?_; refine yM ?_; refine yM ?_; refine yP ?_
        refine yP ?_; refine yP ?_; refine yP ?_; refine yU ?_; refine yM ?_; refine yP ?_; refine yP ?_; refine yP ?_
        refine yU ?_; refine yM ?_; refine wO_nil ?_; refine y1 ?_; refine kB_n ?_
        exact ⟨rfl, rfl, rfl, rfl⟩
      | true =>
        refine y4 ?_; refine yF ?_; refine yL ?_; refine y3 ?_; refine wE_block ?_; refine wE_seq ?_; refine y4 ?_; refine wO_val (a_num (by exact rfl) (by exact rfl) (by with_reducible assumption)) ?_; refine yM ?_; refine y3 ?_; refine yY ?_; refine wE_skip ?_; refine kS_n ?_; refine yY ?_; refine wE_region ?_; refine yM ?_; refine yM ?_; refine yO ?_; refine yF ?_
        refine yO ?_; refine wO_val (a_loadN (by exact rfl) (by (simp (disch := first | omega | (simp only [z1, z2]; omega)) only [z3, z4, z5, z6, z7, z1, z2]; exact rfl)) (by assumption) (by assumption)) ?_; refine yO ?_
        refine yC ?_
        refine FW.pu C2 ?_
        cases ce with
        | true =>
          refine yO ?_; refine yA ?_; refine yT ?_; refine yM ?_; refine yP ?_; refine yP ?_; refine yP ?_; refine yU ?_
          refine yM ?_; refine wO_nil ?_; refine y1 ?_; refine kB_n ?_
          exact ⟨rfl, by cases c2 <;> rfl, rfl, rfl⟩
        | false =>
          refine yO ?_; refine yA ?_; refine yT ?_; refine yM ?_; refine yO ?_; refine yF ?_; refine yO ?_
          refine wO_val (a_load (by exact rfl) (by (simp (disch := first | omega | (simp only [z1, z2]; omega)) only [z3, z4, z5, z6, z7, z1, z2]; exact rfl)) (by assumption)) ?_; refine yO ?_; refine wO_val (a_num (by exact rfl) (by exact rfl) (by with_reducible assumption)) ?_
          refine yT ?_; refine yM ?_; refine wO_nil ?_; refine y1 ?_; refine kB_n ?_
          exact ⟨rfl, by cases c2 <;> cases c0 <;> rfl, rfl, rfl⟩
    | false =>
      subst hh1
      cases hh2 : c2 with
      | true =>
        subst hh2
        have : c3 = false := by rw [← hc3, of_decide_eq_true hc2]; rfl
        subst this
        cases ok with
        | false =>
          refine y4 ?_; refine yF ?_; refine yL ?_; refine y3 ?_; refine wE_block ?_; refine wE_seq ?_; refine y4 ?_; refine wO_val (a_num (by exact rfl) (by exact rfl) (by with_reducible assumption)) ?_; refine yM ?_; refine y3 ?_; refine yX ?_; refine wE_region ?_; refine wO_val (a_num (by exact rfl) (by exact rfl) (by with_reducible assumption)) ?_; refine yM ?_; refine y3 ?_; refine yY ?_; refine wE_region ?_; refine yM ?_; refine yM ?_; refine yP ?_; refine yP ?_; refine yP ?_
          refine yP ?_; refine yU ?_; refine yM ?_; refine yP ?_; refine yP ?_; refine yP ?_; refine yU ?_; refine yM ?_
          refine wO_nil ?_; refine y1 ?_; refine kB_n ?_
          exact ⟨rfl, rfl, rfl, rfl⟩
        | true =>
          refine y4 ?_; refine yF ?_; refine yL ?_; refine y3 ?_; refine wE_block ?_; refine wE_seq ?_; refine y4 ?_; refine wO_val (a_num (by exact rfl) (by exact rfl) (by with_reducible assumption)) ?_; refine yM ?_; refine y3 ?_; refine yX ?_; refine wE_region ?_; refine wO_val (a_num (by exact rfl) (by exact rfl) (by with_reducible assumption)) ?_; refine yM ?_; refine y3 ?_; refine yY ?_; refine wE_region ?_; refine yM ?_; refine yM ?_; refine yO ?_; refine yF ?_; refine yO ?_
          refine wO_val (a_loadN (by exact rfl) (by (simp (disch := first | omega | (simp only [z1, z2]; omega)) only [z3, z4, z5, z6, z7, z1, z2]; exact rfl)) (by assumption) (by assumption)) ?_; refine yO ?_
          refine yC ?_
          refine FW.pu C2 ?_
          cases ce with
          | true =>
            refine yO ?_; refine yA ?_; refine yT ?_; refine yM ?_; refine yP ?_; refine yP ?_; refine yP ?_; refine yU ?_
            refine yM ?_; refine wO_nil ?_; refine y1 ?_; refine kB_n ?_
            exact ⟨rfl, rfl, rfl, rfl⟩
          | false =>
            refine yO ?_; refine yA ?_; refine yT ?_; refine yM ?_; refine yO ?_; refine yF ?_; refine yO ?_
            refine wO_val (a_load (by exact rfl) (by (simp (disch := first | omega | (simp only [z1, z2]; omega)) only [z3, z4, z5, z6, z7, z1, z2]; exact rfl)) (by assumption)) ?_; refine yO ?_; refine wO_val (a_num (by exact rfl) (by exact rfl) (by with_reducible assumption)) ?_
            refine yT ?_; refine yM ?_; refine wO_nil ?_; refine y1 ?_; refine kB_n ?_
            exact ⟨rfl, by cases c0 <;> rfl, rfl, rfl⟩
      | false =>
        subst hh2
        cases hh3 : c3 with
        | true =>
          subst hh3
          cases ok with
          | false =>
            refine y4 ?_; refine yF ?_; refine yL ?_; refine y3 ?_; refine wE_block ?_; refine wE_seq ?_; refine y4 ?_; refine wO_val (a_num (by exact rfl) (by exact rfl) (by with_reducible assumption)) ?_; refine yM ?_; refine y3 ?_; refine yX ?_; refine wE_region ?_; refine wO_val (a_num (by exact rfl) (by exact rfl) (by with_reducible assumption)) ?_; refine yM ?_; refine y3 ?_; refine yX ?_; refine y4 ?_; refine wO_val (a_num (by exact rfl) (by exact rfl) (by with_reducible assumption)) ?_; refine yM ?_; refine y3 ?_; refine yY ?_; refine wE_region ?_; refine yM ?_; refine yM ?_; refine yP ?_; refine yP ?_; refine yP ?_
            refine yU ?_; refine yM ?_; refine yP ?_; refine yP ?_; refine yP ?_; refine yU ?_; refine yM ?_; refine wO_nil ?_
            refine y1 ?_; refine kB_n ?_
            exact ⟨rfl, rfl, rfl, rfl⟩
          | true =>
            refine y4 ?_; refine yF ?_; refine yL ?_; refine y3 ?_; refine wE_block ?_; refine wE_seq ?_; refine y4 ?_; refine wO_val (a_num (by exact rfl) (by exact rfl) (by with_reducible assumption)) ?_; refine yM ?_; refine y3 ?_; refine yX ?_; refine wE_region ?_; refine wO_val (a_num (by exact rfl) (by exact rfl) (by with_reducible assumption)) ?_; refine yM ?_; refine y3 ?_; refine yX ?_; refine y4 ?_; refine wO_val (a_num (by exact rfl) (by exact rfl) (by with_reducible assumption)) ?_; refine yM ?_; refine y3 ?_; refine yY ?_; refine wE_region ?_; refine yM ?_; refine yM ?_; refine yO ?_; refine yF ?_; refine yO ?_
            refine wO_val (a_loadN (by exact rfl) (by (simp (disch := first | omega | (simp only [z1, z2]; omega)) only [z3, z4, z5, z6, z7, z1, z2]; exact rfl)) (by assumption) (by assumption)) ?_; refine yO ?_
            refine yC ?_
            refine FW.pu C2 ?_
            cases ce with
            | true =>
              refine yT ?_; refine yM ?_; refine yO ?_; refine yF ?_; refine yO ?_
              refine wO_val (a_load (by exact rfl) (by (simp (disch := first | omega | (simp only [z1, z2]; omega)) only [z3, z4, z5, z6, z7, z1, z2]; exact rfl)) (by assumption)) ?_; refine yO ?_
              refine yC ?_
              refine FW.pu D3 ?_
              refine yT ?_; refine yM ?_; refine wO_nil ?_; refine y1 ?_; refine kB_n ?_
              exact ⟨rfl, by cases d3 <;> rfl, rfl, rfl⟩
            | false =>
              refine yT ?_; refine yM ?_; refine yP ?_; refine yP ?_; refine yP ?_; refine yU ?_; refine yM ?_; refine wO_nil ?_
              refine y1 ?_; refine kB_n ?_
              exact ⟨rfl, rfl, rfl, rfl⟩
        | false =>
          subst hh3
          refine y4 ?_; refine yF ?_; refine yL ?_; refine y3 ?_; refine wE_block ?_; refine wE_seq ?_; refine y4 ?_; refine wO_val (a_num (by exact rfl) (by exact rfl) (by with_reducible assumption)) ?_; refine yM ?_; refine y3 ?_; refine yX ?_; refine wE_region ?_; refine wO_val (a_num (by exact rfl) (by exact rfl) (by with_reducible assumption)) ?_; refine yM ?_; refine y3 ?_; refine yX ?_; refine y4 ?_; refine wO_val (a_num (by exact rfl) (by exact rfl) (by with_reducible assumption)) ?_; refine yM ?_; refine y3 ?_; refine yX ?_; refine wE_region ?_; refine yM ?_; refine wO_nil ?_; refine y1 ?_; refine kB_n ?_
          exact ⟨rfl, by cases ok <;> rfl, rfl, rfl⟩
  clear C2 D3 m0 m1 m2 m3 hc1 hc2 hc3
  generalize (ok && ((c1 || c2) && (!ce && c0) || c3 && (ce && d3))) = b
  cases b with
  | true =>
    refine wE_seq ?_; refine y4 ?_; refine yM ?_; refine yA ?_; refine y3 ?_; refine yX ?_; refine wE_skip ?_; refine kS_n ?_; refine y4 ?_
    refine yM ?_; refine y3 ?_; refine wE_ret ?_
    exact endP_ret hr.log rfl rfl
  | false =>
    refine wE_seq ?_; refine y4 ?_; refine yM ?_; refine yA ?_; refine y3 ?_; refine yY ?_; refine y4 ?_; refine yM ?_
    refine y3 ?_; refine wE_ret ?_; refine kS_r ?_
    exact endP_ret hr.log rfl rfl
end Go.A.Pk
end
section
set_option maxRecDepth 100000
namespace Go.A.Pk
variable {T : Nat → Option AFunc}
structure FnsRr (T : Nat → Option AFunc) : Prop where
  p : primAS T
  f48 : T 48 = some f48
  f113 : T 113 = some f113
set_option maxHeartbeats 4000000 in
theorem check48 (F : FnsRr T) {h : Heap} (hr : Rdy h) {r : Rd} (hR : IsR r) : Pu T 48 [rdV r] h (.int .i64 (ckR r)) := by
  refine .of F.p F.f48 hr rfl ?_
  have k3 := rdL_cells hR
  have k8 := us_llen hR.cells.len
  have k11 := rdL_of hR
  have W := hr.wf.push (.cells (cellsOf (rdV r)) true 1)
  have C := fun n a b => in113 F.p F.f113 (.of W) n a b
  have m0 : numOp .eql (.int .i64 r.of) (.int .i64 0) = _ := m_eqO
  have m1 : numOp .eql (.int .u8 (r.kind : Nat)) (.int .u8 1) = _ := m_eqI (c := 1) rfl
  have m2 : numOp .eql (.int .u8 (r.kind : Nat)) (.int .u8 2) = _ := m_eqI (c := 2) rfl
  have m3 : numOp .eql (.int .u8 (r.kind : Nat)) (.int .u8 3) = _ := m_eqI (c := 3) rfl
  have Ls : leavesEq (lrep 8 (.i .u64)) (us r.cells).toArray.toList (lrep 8 (.int .u64 0)).toArray.toList = some (decide (r.cells = s0)) := sv_leaves (b := s0) hR.cells.len rfl
  unfold ckR ckOk
  generalize hc1 : decide (r.kind = 1) = c1 at m1 ⊢
  generalize hc2 : decide (r.kind = 2) = c2 at m2 ⊢
  generalize hc3 : decide (r.kind = 3) = c3 at m3 ⊢
  generalize decide (r.of = 0) = c0 at m0 ⊢
  generalize decide (r.cells = s0) = ce at Ls ⊢
  have D1 := C r.id 1 1000000
  have D2 := C r.known 0 100000
  have D3 := C r.of 1 1000000
  clear C
  generalize inR r.id 1 1000000 = d1 at D1 ⊢
  generalize inR r.known 0 100000 = d2 at D2 ⊢
  generalize inR r.of 1 1000000 = d3 at D3 ⊢
  refine y4 ?_; refine yB ?_; refine yM ?_; refine y3 ?_
  refine wE_cutE (E := [(1, .pointer (some ⟨h.next, 0, none⟩)), (3, .bool (c3 && (ce && d3)))]) (H := h.push (.cells (cellsOf (rdV r)) true 1)) ?_ ?_
  · cases c3 with
    | false =>
      refine wE_region ?_; refine yF ?_; refine yL ?_
      refine wO_val (a_num (by exact rfl) (by exact rfl) (by with_reducible assumption)) ?_; refine yM ?_; refine yP ?_; refine yP ?_; refine yP ?_; refine yU ?_; refine yM ?_
      refine yP ?_; refine yP ?_; refine yP ?_; refine yP ?_; refine yU ?_; refine yM ?_; refine wO_nil ?_
      refine y1 ?_
      exact ⟨rfl, rfl, rfl, rfl⟩
    | true =>
      refine wE_region ?_; refine yF ?_; refine yL ?_
      refine wO_val (a_num (by exact rfl) (by exact rfl) (by with_reducible assumption)) ?_; refine yM ?_; refine yO ?_; refine yF ?_; refine yO ?_
      refine wO_val (a_load (by exact rfl) (by (simp (disch := first | omega | (simp only [z1, z2]; omega)) only [z3, z4, z5, z6, z7, z1, z2]; exact rfl)) (by assumption)) ?_; refine yO ?_
      refine yC ?_
      refine FW.pu D3 ?_
      cases d3 with
      | false =>
        refine yT ?_; refine yM ?_; refine yP ?_; refine yP ?_; refine yP ?_; refine yP ?_; refine yU ?_; refine yM ?_
        refine wO_nil ?_; refine y1 ?_
        exact ⟨rfl, by cases ce <;> rfl, rfl, rfl⟩
      | true =>
        refine yT ?_; refine yM ?_; refine yO ?_; refine yF ?_; refine yO ?_
        refine wO_val (a_loadN (by exact rfl) (by (simp (disch := first | omega | (simp only [z1, z2]; omega)) only [z3, z4, z5, z6, z7, z1, z2]; exact rfl)) (by assumption) (by assumption)) ?_; refine yO ?_; refine wO_val (a_build (by exact rfl)) ?_
        refine yO ?_; refine wO_val (a_agg (by exact rfl) (by exact rfl) (by assumption)) ?_; refine yT ?_; refine yM ?_; refine wO_nil ?_; refine y1 ?_
        exact ⟨rfl, by cases ce <;> rfl, rfl, rfl⟩
  refine wE_cut (P := fun h' => h' = h.push (.cells (cellsOf (rdV r)) true 1)) (E0 := fun e => (1, .pointer (some ⟨h.next, 0, none⟩)) :: (3, .bool ((c1 || c2) && (!ce && c0) || c3 && (ce && d3))) :: e) ?_ ?_
  · cases hh1 : c1 with
    | true =>
      subst hh1
      have : c3 = false := by rw [← hc3, of_decide_eq_true hc1]; rfl
      subst this
      cases c0 with
      | false =>
        refine y4 ?_; refine yF ?_; refine yL ?_
        refine wO_val (a_num (by exact rfl) (by exact rfl) (by with_reducible assumption)) ?_; refine yM ?_; refine yP ?_; refine yP ?_; refine yP ?_; refine yT ?_; refine y3 ?_; refine yY ?_; refine wE_region ?_; refine yF ?_
        refine wO_val (a_load (by exact rfl) (by (simp (disch := first | omega | (simp only [z1, z2]; omega)) only [z3, z4, z5, z6, z7, z1, z2]; exact rfl)) (by assumption)) ?_; refine wO_val (a_num (by exact rfl) (by exact rfl) (by with_reducible assumption)) ?_
        refine yM ?_; refine yP ?_; refine yP ?_; refine yP ?_; refine yP ?_; refine yU ?_; refine yM ?_; refine wO_nil ?_
        refine y1 ?_
        exact ⟨rfl, ⟨[], by cases ce <;> cases c2 <;> rfl⟩, rfl, rfl⟩
      | true =>
        refine y4 ?_; refine yF ?_; refine yL ?_
        refine wO_val (a_num (by exact rfl) (by exact rfl) (by with_reducible assumption)) ?_; refine yM ?_; refine yP ?_; refine yP ?_; refine yP ?_; refine yT ?_; refine y3 ?_; refine yY ?_; refine wE_region ?_; refine yF ?_
        refine wO_val (a_load (by exact rfl) (by (simp (disch := first | omega | (simp only [z1, z2]; omega)) only [z3, z4, z5, z6, z7, z1, z2]; exact rfl)) (by assumption)) ?_; refine wO_val (a_num (by exact rfl) (by exact rfl) (by with_reducible assumption)) ?_
        refine yM ?_; refine yO ?_; refine yF ?_; refine yO ?_
        refine wO_val (a_loadN (by exact rfl) (by (simp (disch := first | omega | (simp only [z1, z2]; omega)) only [z3, z4, z5, z6, z7, z1, z2]; exact rfl)) (by assumption) (by assumption)) ?_; refine yO ?_; refine wO_val (a_build (by exact rfl)) ?_
        refine yO ?_; refine wO_val (a_agg (by exact rfl) (by exact rfl) (by assumption)) ?_; refine yT ?_; refine yM ?_; refine wO_nil ?_; refine y1 ?_
        exact ⟨rfl, ⟨[], by cases ce <;> cases c2 <;> rfl⟩, rfl, rfl⟩
    | false =>
      subst hh1
      cases hh2 : c2 with
      | true =>
        subst hh2
        have : c3 = false := by rw [← hc3, of_decide_eq_true hc2]; rfl
        subst this
        cases c0 with
        | false =>
          refine y4 ?_; refine yF ?_; refine yL ?_
          refine wO_val (a_num (by exact rfl) (by exact rfl) (by with_reducible assumption)) ?_; refine yM ?_; refine yO ?_; refine yF ?_; refine yO ?_
          refine yL ?_; refine yO ?_; refine wO_val (a_num (by exact rfl) (by exact rfl) (by with_reducible assumption)) ?_
          refine yU ?_; refine y3 ?_; refine yY ?_; refine wE_region ?_; refine yF ?_
          refine wO_val (a_load (by exact rfl) (by (simp (disch := first | omega | (simp only [z1, z2]; omega)) only [z3, z4, z5, z6, z7, z1, z2]; exact rfl)) (by assumption)) ?_; refine wO_val (a_num (by exact rfl) (by exact rfl) (by with_reducible assumption)) ?_
          refine yM ?_; refine yP ?_; refine yP ?_; refine yP ?_; refine yP ?_; refine yU ?_; refine yM ?_; refine wO_nil ?_
          refine y1 ?_
          exact ⟨rfl, ⟨[], by cases ce <;> rfl⟩, rfl, rfl⟩
        | true =>
          refine y4 ?_; refine yF ?_; refine yL ?_
          refine wO_val (a_num (by exact rfl) (by exact rfl) (by with_reducible assumption)) ?_; refine yM ?_; refine yO ?_; refine yF ?_; refine yO ?_
          refine yL ?_; refine yO ?_; refine wO_val (a_num (by exact rfl) (by exact rfl) (by with_reducible assumption)) ?_
          refine yU ?_; refine y3 ?_; refine yY ?_; refine wE_region ?_; refine yF ?_
          refine wO_val (a_load (by exact rfl) (by (simp (disch := first | omega | (simp only [z1, z2]; omega)) only [z3, z4, z5, z6, z7, z1, z2]; exact rfl)) (by assumption)) ?_; refine wO_val (a_num (by exact rfl) (by exact rfl) (by with_reducible assumption)) ?_
          refine yM ?_; refine yO ?_; refine yF ?_; refine yO ?_
          refine wO_val (a_loadN (by exact rfl) (by (simp (disch := first | omega | (simp only [z1, z2]; omega)) only [z3, z4, z5, z6, z7, z1, z2]; exact rfl)) (by assumption) (by assumption)) ?_; refine yO ?_; refine wO_val (a_build (by exact rfl)) ?_
          refine yO ?_; refine wO_val (a_agg (by exact rfl) (by exact rfl) (by assumption)) ?_; refine yT ?_; refine yM ?_; refine wO_nil ?_; refine y1 ?_
          exact ⟨rfl, ⟨[], by cases ce <;> rfl⟩, rfl, rfl⟩
      | false =>
        subst hh2
        refine y4 ?_; refine yF ?_; refine yL ?_
        refine wO_val (a_num (by exact rfl) (by exact rfl) (by with_reducible assumption)) ?_; refine yM ?_; refine yO ?_; refine yF ?_; refine yO ?_
        refine yL ?_; refine yO ?_; refine wO_val (a_num (by exact rfl) (by exact rfl) (by with_reducible assumption)) ?_
        refine yU ?_; refine y3 ?_; refine yX ?_; refine wE_skip ?_
        exact ⟨rfl, ⟨[(25, .bool false)], rfl⟩, rfl, rfl⟩
  rintro er _ rfl
  clear D3 m0 m1 m2 m3 hc1 hc2 hc3 Ls
  generalize ((c1 || c2) && (!ce && c0) || c3 && (ce && d3)) = b
  cases b with
  | false =>
    rw [Bool.and_false]
    refine wE_seq ?_; refine y4 ?_; refine yM ?_; refine yA ?_; refine yM ?_; refine yP ?_; refine yP ?_; refine yP ?_; refine yP ?_
    refine yT ?_; refine yM ?_; refine yP ?_; refine yP ?_; refine yP ?_; refine yP ?_; refine yT ?_; refine y3 ?_; refine yY ?_; refine y4 ?_; refine yM ?_; refine y3 ?_; refine wE_ret ?_; refine kS_r ?_
    exact endP_ret hr.log rfl rfl
  | true =>
    rw [Bool.and_true]
    refine wE_seq ?_; refine y4 ?_; refine yM ?_; refine yA ?_; refine yM ?_; refine yO ?_; refine yF ?_; refine yO ?_
    refine yL ?_; refine yO ?_
    refine yC ?_
    refine FW.pu D1 ?_
    cases d1 with
    | false =>
      refine yO ?_; refine yA ?_; refine yU ?_; refine yM ?_; refine yP ?_; refine yP ?_; refine yP ?_; refine yP ?_
      refine yT ?_; refine y3 ?_; refine yY ?_; refine y4 ?_; refine yM ?_; refine y3 ?_; refine wE_ret ?_; refine kS_r ?_
      exact endP_ret hr.log rfl rfl
    | true =>
      refine yO ?_; refine yA ?_; refine yU ?_; refine yM ?_; refine yO ?_; refine yF ?_; refine yO ?_
      refine yL ?_; refine yO ?_
      refine yC ?_
      refine FW.pu D2 ?_
      cases d2 with
      | false =>
        refine yO ?_; refine yA ?_; refine yU ?_; refine y3 ?_; refine yY ?_; refine y4 ?_; refine yM ?_; refine y3 ?_; refine wE_ret ?_; refine kS_r ?_
        exact endP_ret hr.log rfl rfl
      | true =>
        refine yO ?_; refine yA ?_; refine yU ?_; refine y3 ?_; refine yX ?_; refine wE_skip ?_; refine kS_n ?_; refine y4 ?_
        refine yM ?_; refine y3 ?_; refine wE_ret ?_
        exact endP_ret hr.log rfl rfl
def rsL (l : List Rd) : List Value := l.flatMap rdL
theorem rsL_cons (r : Rd) (l : List Rd) : rsL (r :: l) = rdL r ++ rsL l := by simp [rsL]
theorem rsL_length : ∀ {l : List Rd}, (∀ r ∈ l, IsR r) → (rsL l).length = l.length * 12
  | [], _ => rfl
  | r :: l, h => by
    have ih := rsL_length (l := l) fun x hx => h x (List.mem_cons_of_mem _ hx)
    simp only [rsL, List.flatMap_cons, List.length_append, rdL_length (h r List.mem_cons_self), List.length_cons] at ih ⊢
    rw [ih]; omega
theorem rsL_drop : ∀ {l : List Rd} {i : Nat}, (∀ r ∈ l, IsR r) → (rsL l).drop (i * 12) = rsL (l.drop i)
  | l, 0, _ => by simp
  | [], i + 1, _ => by simp [rsL]
  | r :: l, i + 1, h => by
    have ih := rsL_drop (l := l) (i := i) fun x hx => h x (List.mem_cons_of_mem _ hx)
    rw [rsL_cons, List.drop_succ_cons, ← ih, show (i + 1) * 12 = (rdL r).length + i * 12 by rw [rdL_length (h r List.mem_cons_self)]; omega, ← List.drop_drop, List.drop_left]
theorem rsL_at {l : List Rd} {i : Nat} {r : Rd} (h : ∀ r ∈ l, IsR r) (hi : l[i]? = some r) : ((rsL l).drop (i * 12)).take 12 = rdL r := by
  rw [rsL_drop h]
  obtain ⟨hlt, rfl⟩ := List.getElem?_eq_some_iff.1 hi
  rw [List.drop_eq_getElem_cons hlt]
  rw [rsL_cons, List.take_append_of_le_length (by rw [rdL_length (h _ (List.getElem_mem hlt))]; omega), List.take_of_length_le (by rw [rdL_length (h _ (List.getElem_mem hlt))]; omega)]
structure RdAt (vs : List Value) (o : Nat) (r : Rd) : Prop where
  all : ltake 12 (ldrop o vs) = rdL r
  id : lget vs (o + 0) = some (.int .i64 r.id)
  known : lget vs (o + 1) = some (.int .i64 r.known)
  kind : lget vs (o + 2) = some (.int .u8 (r.kind : Nat))
  cells : ltake 8 (ldrop (o + 3) vs) = us r.cells
  of : lget vs (o + 11) = some (.int .i64 r.of)
theorem RdAt.mk' {vs : List Value} {o : Nat} {r : Rd} (hR : IsR r) (h : (vs.drop o).take 12 = rdL r) : RdAt vs o r := by
  have g : ∀ i, i < 12 → lget vs (o + i) = (rdL r)[i]? := fun i hi => by
    rw [lget_eq, ← h, List.getElem?_take_of_lt hi, List.getElem?_drop]
  refine ⟨by rw [ltake_eq, ldrop_eq]; exact h, (g 0 (by omega)).trans rfl, (g 1 (by omega)).trans rfl, (g 2 (by omega)).trans rfl, ?_, ?_⟩
  · have := rdL_cells hR
    rw [← this, ltake_eq, ldrop_eq, ltake_eq, ldrop_eq, ← h, List.drop_take, List.drop_drop, List.take_take]
    rfl
  · rw [g 11 (by omega)]
    have := rdL_of hR
    rw [lget_eq] at this
    exact this
theorem rd_elem {h : Heap} {b o n : Nat} {l : List Rd} (s : SliceAt h b o n 12 (rsL l)) (hl : ∀ r ∈ l, IsR r) {i : Nat} {r : Rd} (hi : l[i]? = some r) : ∃ vs own t, h.get b = some (.cells vs own t) ∧ RdAt vs (o + i * 12) r ∧ o + i * 12 + 12 ≤ vs.length := by
  obtain ⟨vs, own, t, h1, h2⟩ := s.obj
  have hlen := s.len
  rw [rsL_length hl] at hlen
  have hilt : i < l.length := (List.getElem?_eq_some_iff.1 hi).1
  have hn : n = l.length := by omega
  rw [ltake_eq, ldrop_eq] at h2
  have hr := rsL_at hl hi
  rw [← h2, List.drop_take, List.drop_drop, List.take_take, Nat.min_eq_left (by omega)] at hr
  have hlv : (vs.drop o).length ≥ n * 12 := by
    have := congrArg List.length h2
    rw [rsL_length hl, List.length_take] at this
    omega
  rw [List.length_drop] at hlv
  exact ⟨vs, own, t, h1, .mk' (hl r (List.mem_of_getElem? hi)) hr, by omega⟩
end Go.A.Pk
end
section
set_option maxRecDepth 100000
namespace Go.A.Pk
variable {T : Nat → Option AFunc}
def idxR (P : Rd → Bool) : List Rd → Nat → Int
  | [], _ => -1
  | r :: l, i => if P r then (i : Int) else idxR P l (i + 1)
theorem idxR_drop (P : Rd → Bool) {l : List Rd} {i : Nat} {r : Rd} (hi : l[i]? = some r) : idxR P (l.drop i) i = if P r then (i : Int) else idxR P (l.drop (i + 1)) (i + 1) := by
  obtain ⟨hlt, rfl⟩ := List.getElem?_eq_some_iff.1 hi
  rw [List.drop_eq_getElem_cons hlt, idxR]
theorem idxR_end (P : Rd → Bool) (l : List Rd) : idxR P (l.drop l.length) l.length = -1 := by
  rw [List.drop_length]; rfl
theorem idxR_any (P : Rd → Bool) : ∀ (l : List Rd) (i : Nat), decide (0 ≤ idxR P l i) = l.any P
  | [], _ => rfl
  | r :: l, i => by
    rw [idxR, List.any_cons]
    by_cases h : P r = true
    · rw [if_pos h, h, Bool.true_or]; exact decide_eq_true (by omega)
    · rw [if_neg h, idxR_any P l (i + 1)]
      have : P r = false := by simpa using h
      rw [this, Bool.false_or]
structure RdS (h : Heap) (v : Value) (l : List Rd) : Prop where
  sl : SliceOf h 12 v l.length (rsL l)
  ok : ∀ r ∈ l, IsR r
theorem RdS.elem {h : Heap} {a : Option Addr} {n c : Nat} {l : List Rd} (s : RdS h (.slice a n c) l) {i : Nat} {r : Rd} (hi : l[i]? = some r) :
    ∃ b o vs own t, a = some ⟨b, o, none⟩ ∧ h.get b = some (.cells vs own t) ∧ RdAt vs (o + i * 12) r ∧ b < h.next ∧ o + i * 12 + 12 ≤ vs.length := by
  have hlt := (List.getElem?_eq_some_iff.1 hi).1
  rcases s.sl.inv with ⟨_, _, h0, _⟩ | ⟨b, o, cap, hv, s1, hc⟩
  · omega
  · cases hv
    obtain ⟨vs, own, t, g1, g2, g3⟩ := rd_elem s1 s.ok hi
    exact ⟨b, o, vs, own, t, rfl, g1, g2, s1.lt, g3⟩
theorem RdS.len {h : Heap} {a : Option Addr} {n c : Nat} {l : List Rd} (s : RdS h (.slice a n c) l) : n = l.length := by
  rcases s.sl.inv with ⟨_, hv, h0, _⟩ | ⟨b, o, cap, hv, s1, hc⟩
  · cases hv; exact h0.symm
  · cases hv; rfl
theorem RdS.ext {h h' : Heap} {v : Value} {l : List Rd} (s : RdS h v l) (x : Ext h h') : RdS h' v l := ⟨s.sl.ext x, s.ok⟩
theorem RdS.log {h : Heap} {v : Value} {l : List Rd} (s : RdS h v l) (m : List Nat) : RdS { h with log := m } v l := ⟨s.sl.log m, s.ok⟩
set_option maxHeartbeats 1000000 in
theorem index219 (hp : primAS T) (hf : T 219 = some f219) {h : Heap} (hr : Rdy h) {a : Option Addr} {n c : Nat} {l : List Rd} (s : RdS h (.slice a n c) l) (hn : n < 1000000) {g : Nat} {cap : List Value} (P : Rd → Bool)
    (HP : ∀ r ∈ l, Pu T g (rdV r :: cap) h (.bool (P r))) : Pu T 219 [.slice a n c, .func (.func g) #[] cap.toArray] h (.int .i64 (idxR P l 0)) := by
  refine .of hp hf hr rfl ?_
  obtain rfl := s.len
  refine y4 ?_; refine yM ?_; refine y3 ?_; refine wE_seq ?_; refine y4 ?_; refine yM ?_; refine yD ?_; refine yM ?_
  refine y3 ?_; refine wE_block ?_
  refine wE_loop (fun m e ds h' => ∃ i : Nat, i ≤ l.length ∧ m = l.length - i ∧ e = [(0, .slice a l.length c), (1, .func (.func g) #[] cap.toArray), (7, .int .i64 (l.length : Nat)), (8, .int .i64 (i : Nat))] ∧ ds = [] ∧ h = h' ∧ idxR P l 0 = idxR P (l.drop i) i)
    ⟨0, Nat.zero_le _, rfl, rfl, rfl, rfl, rfl⟩ ?_
  rintro m e ds _ ⟨i, hin, rfl, rfl, rfl, rfl, hi⟩
  by_cases hlt : i < l.length
  · obtain ⟨r, hri⟩ : ∃ r, l[i]? = some r := ⟨l[i], List.getElem?_eq_getElem hlt⟩
    obtain ⟨b, o, vs, own, t, rfl, g1, g2, hb, _⟩ := s.elem hri
    have k1 := g2.all
    have k2 := rdL_llen (s.ok r (List.mem_of_getElem? hri))
    have H := HP r (List.mem_of_getElem? hri)
    rw [idxR_drop P hri] at hi
    refine y4 ?_; refine yt ?_; refine y3 ?_; refine wE_seq ?_; refine yY ?_; refine wE_skip ?_; refine kS_n ?_; refine wE_seq ?_; refine wE_block ?_; refine y4 ?_; refine yM ?_; refine yM ?_; refine y3 ?_; refine y4 ?_; refine yM ?_; refine yM ?_; refine yM ?_
    refine wO_val (a_iaddrS (by exact rfl) (by exact rfl) (by omega)) ?_; refine wO_val (a_loadN (by exact rfl) (by assumption) (by assumption) (by assumption)) ?_
    refine wO_call (a_call (all := rdV r :: cap) (by exact rfl) (by exact rfl) (by exact rfl) (by rw [lcat_eq, lcat_eq]; simp [rdV])) ?_
    refine FW.pu (by rw [hr.self]; exact H) ?_
    clear H HP
    cases hpr : P r with
    | true =>
      rw [hpr, if_pos rfl] at hi
      rw [hi]
      refine y3 ?_; refine yY ?_; refine y4 ?_; refine yM ?_; refine yM ?_; refine y3 ?_; refine wE_ret ?_; refine kB_r ?_; refine kS_r ?_; refine kS_r ?_; refine kB_r ?_; refine kS_r ?_
      exact endP_ret hr.log rfl rfl
    | false =>
      rw [hpr, if_neg (by simp)] at hi
      refine y3 ?_; refine yX ?_; refine wE_skip ?_; refine kB_n ?_; refine kS_n ?_; refine wE_region ?_; refine yinc ?_; refine yM ?_; refine y3 ?_
      exact ⟨l.length - (i + 1), by omega, i + 1, by omega, rfl, rfl, rfl, rfl, hi⟩
  · obtain rfl : i = l.length := by omega
    rw [idxR_end] at hi
    rw [hi]
    refine y4 ?_; refine yf ?_; refine y3 ?_; refine wE_seq ?_; refine yX ?_; refine wE_exit ?_; refine kS_e ?_; refine kS_e ?_; refine kB_e ?_; refine kS_n ?_
    refine y4 ?_; refine yM ?_; refine y3 ?_; refine wE_ret ?_
    exact endP_ret hr.log rfl rfl
theorem contains218 (hp : primAS T) (hf : T 218 = some f218) (hf2 : T 219 = some f219) {h : Heap} (hr : Rdy h) {a : Option Addr} {n c : Nat} {l : List Rd} (s : RdS h (.slice a n c) l) (hn : n < 1000000) {g : Nat} {cap : List Value} (P : Rd → Bool)
    (HP : ∀ r ∈ l, Pu T g (rdV r :: cap) h (.bool (P r))) : Pu T 218 [.slice a n c, .func (.func g) #[] cap.toArray] h (.bool (l.any P)) := by
  refine .of hp hf hr rfl ?_
  have C := index219 hp hf2 hr s hn P HP
  rw [← idxR_any P l 0]
  generalize idxR P l 0 = z at C ⊢
  refine y4 ?_; refine yM ?_; refine y3 ?_; refine y4 ?_; refine yM ?_; refine yM ?_
  refine yC ?_
  refine FW.pu (by rw [hr.self]; exact C) ?_
  clear C
  have m1 : numOp .geq (.int .i64 z) (.int .i64 0) = some (.bool (decide (0 ≤ z))) := m_geq
  refine wO_val (a_num (by exact rfl) (by exact rfl) (by with_reducible assumption)) ?_; refine yM ?_; refine y3 ?_; refine wE_ret ?_
  exact endP_ret hr.log rfl rfl
abbrev Box (h : Heap) (b : Nat) (v : Value) : Prop := h.get b = some (.cells [v] true 1)
theorem m_eqlI {a b : Int} : numOp .eql (.int .i64 a) (.int .i64 b) = some (.bool (decide (a = b))) := by
  rw [m_eql]
  by_cases h : a = b
  · subst h; simp
  · rw [decide_eq_false h]
    have : (a == b) = false := by simpa using h
    rw [this]
theorem has217 (hp : primAS T) (hf : T 217 = some f217) {h : Heap} (hr : Rdy h) {b : Nat} {z : Int} (hb : Box h b (.int .i64 z)) (r : Rd) : Pu T 217 [rdV r, .pointer (some ⟨b, 0, none⟩)] h (.bool (decide (r.id = z))) := by
  refine .of hp hf hr rfl ?_
  have hlt := WF.get_lt hr.wf hb
  have g1 : h.get b = some (.cells [.int .i64 z] true 1) := hb
  have m1 := m_eqlI (a := r.id) (b := z)
  refine y4 ?_; refine yB ?_; refine yM ?_; refine y3 ?_; refine y4 ?_; refine yF ?_
  refine yL ?_
  refine yL ?_; refine wO_val (a_num (by exact rfl) (by exact rfl) (by with_reducible assumption)) ?_
  refine yM ?_; refine y3 ?_; refine wE_ret ?_
  exact endP_ret hr.log rfl rfl
theorem void220 (hp : primAS T) (hf : T 220 = some f220) {h : Heap} (hr : Rdy h) {b : Nat} {z : Int} (hb : Box h b (.int .i64 z)) {r : Rd} (hR : IsR r) : Pu T 220 [rdV r, .pointer (some ⟨b, 0, none⟩)] h (.bool (decide (r.kind = 3) && decide (r.of = z))) := by
  refine .of hp hf hr rfl ?_
  have hlt := WF.get_lt hr.wf hb
  have g1 : h.get b = some (.cells [.int .i64 z] true 1) := hb
  have k11 := rdL_of hR
  have m1 := m_eqlI (a := r.of) (b := z)
  have m2 : numOp .eql (.int .u8 (r.kind : Nat)) (.int .u8 3) = _ := m_eqI (c := 3) rfl
  generalize decide (r.kind = 3) = c3 at m2 ⊢
  cases c3 with
  | true =>
    refine y4 ?_; refine yB ?_; refine yM ?_; refine y3 ?_; refine y4 ?_; refine yF ?_
    refine yL ?_; refine wO_val (a_num (by exact rfl) (by exact rfl) (by with_reducible assumption)) ?_
    refine yM ?_; refine yO ?_; refine yF ?_; refine yO ?_
    refine wO_val (a_load (by exact rfl) (by (simp (disch := first | omega | (simp only [z1, z2]; omega)) only [z3, z4, z5, z6, z7, z1, z2, g1]; exact rfl)) (by assumption)) ?_; refine yO ?_
    refine yL ?_; refine yO ?_
    refine wO_val (a_num (by exact rfl) (by exact rfl) (by with_reducible assumption)) ?_; refine yT ?_; refine yM ?_; refine y3 ?_; refine wE_ret ?_
    exact endP_ret hr.log rfl rfl
  | false =>
    refine y4 ?_; refine yB ?_; refine yM ?_; refine y3 ?_; refine y4 ?_; refine yF ?_
    refine yL ?_; refine wO_val (a_num (by exact rfl) (by exact rfl) (by with_reducible assumption)) ?_
    refine yM ?_; refine yP ?_; refine yP ?_; refine yP ?_; refine yP ?_; refine yU ?_; refine yM ?_; refine y3 ?_; refine wE_ret ?_
    exact endP_ret hr.log rfl rfl
theorem late133 (hp : primAS T) (hf : T 133 = some f133) {h : Heap} (hr : Rdy h) {b : Nat} {z : Int} (hb : Box h b (.int .i64 z)) (r : Rd) : Pu T 133 [rdV r, .pointer (some ⟨b, 0, none⟩)] h (.bool (decide (z < r.known))) := by
  refine .of hp hf hr rfl ?_
  have hlt := WF.get_lt hr.wf hb
  have g1 : h.get b = some (.cells [.int .i64 z] true 1) := hb
  have m1 : numOp .gtr (.int .i64 r.known) (.int .i64 z) = some (.bool (decide (z < r.known))) := m_gtr
  refine y4 ?_; refine yB ?_; refine yM ?_; refine y3 ?_; refine y4 ?_; refine yF ?_
  refine yL ?_
  refine yL ?_; refine wO_val (a_num (by exact rfl) (by exact rfl) (by with_reducible assumption)) ?_
  refine yM ?_; refine y3 ?_; refine wE_ret ?_
  exact endP_ret hr.log rfl rfl
structure FnsVo (T : Nat → Option AFunc) : Prop where
  p : primAS T
  f135 : T 135 = some f135
  f218 : T 218 = some f218
  f219 : T 219 = some f219
  f220 : T 220 = some f220
def voidR (l : List Rd) (z : Int) : Bool := l.any fun r => decide (r.kind = 3) && decide (r.of = z)
theorem voids135 (F : FnsVo T) {h : Heap} (hr : Rdy h) {a : Option Addr} {n c : Nat} {l : List Rd} (s : RdS h (.slice a n c) l) (hn : n < 1000000) (z : Int) : Pu T 135 [.slice a n c, .int .i64 z] h (.bool (voidR l z)) := by
  refine .of F.p F.f135 hr rfl ?_
  have W := hr.wf.push (.cells [Value.int .i64 z] true 1)
  have x : Ext h (h.push (.cells [Value.int .i64 z] true 1)) := (Ext.refl h).push _
  have C := contains218 F.p F.f218 F.f219 (.of W) ((s.ext x).log []) hn (g := 220) (cap := [.pointer (some ⟨h.next, 0, none⟩)]) (fun r => decide (r.kind = 3) && decide (r.of = z))
    (fun r hR => void220 F.p F.f220 (.of W) (z3 h _) (s.ok r hR))
  refine y4 ?_; refine yB ?_; refine yM ?_; refine y3 ?_; refine y4 ?_; refine yM ?_
  refine wO_val (a_mkFunc (by exact rfl) (by exact rfl)) ?_
  refine yC ?_
  refine FW.pu C ?_
  clear C
  refine yM ?_; refine y3 ?_; refine wE_ret ?_
  exact endP_ret hr.log rfl rfl
theorem out134 (F : FnsVo T) (hf : T 134 = some f134) {h : Heap} (hr : Rdy h) {b : Nat} {a : Option Addr} {n c : Nat} {l : List Rd} (hb : Box h b (.slice a n c)) (s : RdS h (.slice a n c) l) (hn : n < 1000000) (r : Rd) :
    Pu T 134 [rdV r, .pointer (some ⟨b, 0, none⟩)] h (.bool (decide (r.kind = 3) || voidR l r.id)) := by
  refine .of F.p hf hr rfl ?_
  have hlt := WF.get_lt hr.wf hb
  have g1 : h.get b = some (.cells [.slice a n c] true 1) := hb
  have W := hr.wf.push (.cells (cellsOf (rdV r)) true 1)
  have x : Ext h (h.push (.cells (cellsOf (rdV r)) true 1)) := (Ext.refl h).push _
  have C := voids135 F (.of W) ((s.ext x).log []) hn r.id
  have m2 : numOp .eql (.int .u8 (r.kind : Nat)) (.int .u8 3) = _ := m_eqI (c := 3) rfl
  generalize decide (r.kind = 3) = c3 at m2 ⊢
  generalize voidR l r.id = w at C ⊢
  cases c3 with
  | true =>
    refine y4 ?_; refine yB ?_; refine yM ?_; refine y3 ?_; refine y4 ?_; refine yF ?_
    refine yL ?_; refine wO_val (a_num (by exact rfl) (by exact rfl) (by with_reducible assumption)) ?_
    refine yM ?_; refine yP ?_; refine yP ?_; refine yP ?_; refine yP ?_; refine yT ?_; refine yM ?_; refine y3 ?_; refine wE_ret ?_
    exact endP_ret hr.log rfl rfl
  | false =>
    refine y4 ?_; refine yB ?_; refine yM ?_; refine y3 ?_; refine y4 ?_; refine yF ?_
    refine yL ?_; refine wO_val (a_num (by exact rfl) (by exact rfl) (by with_reducible assumption)) ?_
    refine yM ?_; refine yO ?_; refine yL ?_; refine yO ?_
    refine yF ?_; refine yO ?_; refine yL ?_; refine yO ?_
    refine yC ?_
    refine FW.pu C ?_
    clear C
    refine yU ?_; refine yM ?_; refine y3 ?_; refine wE_ret ?_
    exact endP_ret hr.log rfl rfl
end Go.A.Pk
end
section
set_option maxRecDepth 100000
namespace Go.A.Pk
variable {T : Nat → Option AFunc}
def CloR (lo : Nat) (l : List Rd) (v : Value) (h : Heap) : Prop :=
  (v = .slice none 0 0 ∧ l = []) ∨ ∃ b, lo ≤ b ∧ b < h.next ∧ h.get b = some (.cells (rsL l) true 12) ∧ ((l = [] ∧ v = .slice (some ⟨b, 0, none⟩) 0 0) ∨ (l ≠ [] ∧ v = .slice (some ⟨b, 0, none⟩) l.length UNK))
theorem CloR.rd {lo : Nat} {l : List Rd} {v : Value} {h : Heap} (q : CloR lo l v h) (hl : ∀ r ∈ l, IsR r) (hn : l.length < 1000000) : RdS h v l := by
  refine ⟨?_, hl⟩
  rcases q with ⟨rfl, rfl⟩ | ⟨b, h1, h2, h3, ⟨rfl, rfl⟩ | ⟨h4, rfl⟩⟩
  · exact .nil
  · exact .mem ⟨h2, ⟨_, _, _, h3, rfl⟩, rfl⟩ (Nat.le_refl _)
  · refine .mem ⟨h2, ⟨_, _, _, h3, ?_⟩, rsL_length hl⟩ ?_
    · rw [ltake_eq, ldrop_eq, List.drop_zero, List.take_of_length_le (by rw [rsL_length hl]; omega)]
    · unfold UNK; omega
theorem CloR.log {lo : Nat} {l : List Rd} {v : Value} {h : Heap} (m : List Nat) (q : CloR lo l v h) : CloR lo l v { h with log := m } := q
theorem clone131 (hp : primAS T) (hf : T 131 = some f131) {h : Heap} (hr : Rdy h) {a : Option Addr} {n c : Nat} {l : List Rd} (s : RdS h (.slice a n c) l) (hn : n < 1000000) : Al T 131 [.slice a n c] h (CloR h.next l) := by
  obtain rfl := s.len
  refine .of hp hf hr ?_ ?_
  · intro v h1 hv hq
    rcases hq with hq | ⟨b, _, _, _, ⟨_, rfl⟩ | ⟨_, rfl⟩⟩
    · exact .inl hq
    · cases hv
    · cases hv
  rcases s.sl.inv with ⟨c', hv, h0, _⟩ | ⟨b, o, cap, hv, s1, hc⟩
  · have hl : l = [] := List.length_eq_zero_iff.1 h0
    subst hl
    cases hv
    refine y4 ?_; refine yM ?_; refine y3 ?_; refine wE_seq ?_; refine y4 ?_; refine yM ?_; refine wO_val (a_nil (by exact rfl) (by exact rfl) (by exact rfl)) ?_; refine y3 ?_; refine yY ?_; refine y4 ?_; refine yM ?_; refine y3 ?_; refine wE_ret ?_; refine kS_r ?_
    exact endA_ret hr.log rfl (.inl ⟨rfl, rfl⟩)
  · cases hv
    have hs := src_of (s.sl.ext ((Ext.refl h).push (.cells [] true 12)))
    by_cases h0 : l.length = 0
    · have hl : l = [] := List.length_eq_zero_iff.1 h0
      subst hl
      refine y4 ?_; refine yM ?_; refine y3 ?_; refine wE_seq ?_; refine y4 ?_; refine yM ?_; refine wO_val (a_nil (by exact rfl) (by exact rfl) (by exact rfl)) ?_; refine y3 ?_; refine yX ?_; refine wE_skip ?_; refine kS_n ?_; refine y4 ?_; refine wO_val (a_bslice (by exact rfl) (by exact rfl)) ?_; refine yM ?_
      refine wO_val (a_app_zero (by exact rfl) (by exact rfl) hs (Nat.le_refl _)) ?_
      refine yM ?_; refine y3 ?_; refine wE_ret ?_
      refine endA_ret hr.log rfl (.inr ⟨h.next, Nat.le_refl _, Nat.lt_succ_self _, ?_, .inl ⟨rfl, rfl⟩⟩)
      (simp (disch := first | omega | (simp only [z1, z2]; omega)) only [z3, z4, z5, z6, z7, z1, z2]; exact rfl)
    · refine y4 ?_; refine yM ?_; refine y3 ?_; refine wE_seq ?_; refine y4 ?_; refine yM ?_; refine wO_val (a_nil (by exact rfl) (by exact rfl) (by exact rfl)) ?_; refine y3 ?_; refine yX ?_; refine wE_skip ?_; refine kS_n ?_; refine y4 ?_; refine wO_val (a_bslice (by exact rfl) (by exact rfl)) ?_; refine yM ?_
      refine wO_val (a_app_full (c := 0) (len := 0) (by exact rfl) (by exact rfl) hs h0 (by omega) (by decide) (z3 h _) (by exact Nat.le_refl _) (by omega) (by exact rfl)) ?_
      refine yM ?_; refine y3 ?_; refine wE_ret ?_
      refine endA_ret hr.log rfl (.inr ⟨h.next + 1, Nat.le_succ _, Nat.lt_succ_self _, ?_, .inr ⟨fun q => h0 (by rw [q]; rfl), ?_⟩⟩)
      · (simp (disch := first | omega | (simp only [z1, z2]; omega) | (simp only [z1, z2]; done) | fail) only [z8, z4, z5, z9, z7, z1, z2]; exact rfl)
      · rw [Nat.zero_add]; rfl
def DelR (l : List Rd) (v : Value) (h : Heap) : Prop := RdS h v l
theorem take_at {l : List Rd} {i : Nat} {r : Rd} (hi : l[i]? = some r) (Q : Rd → Bool) : (l.take (i + 1)).filter Q = (l.take i).filter Q ++ (if Q r then [r] else []) := by
  obtain ⟨hlt, rfl⟩ := List.getElem?_eq_some_iff.1 hi
  rw [List.take_succ_eq_append_getElem hlt, List.filter_append]
  congr 1
  by_cases hq : Q l[i] = true
  · simp [hq]
  · simp [hq]
theorem idxR_pos (P : Rd → Bool) : ∀ (l : List Rd) (i : Nat), 0 ≤ idxR P l i → ∃ k r, l[k]? = some r ∧ P r = true ∧ idxR P l i = ((i + k : Nat) : Int) ∧ ∀ x ∈ l.take k, P x = false
  | [], i, h => by simp [idxR] at h
  | r :: l, i, h => by
    rw [idxR] at h ⊢
    by_cases hp : P r = true
    · exact ⟨0, r, rfl, hp, by rw [if_pos hp]; rfl, fun x hx => by simp at hx⟩
    · rw [if_neg hp] at h ⊢
      obtain ⟨k, q, h1, h2, h3, h4⟩ := idxR_pos P l (i + 1) h
      refine ⟨k + 1, q, by simpa using h1, h2, by rw [h3]; congr 1; omega, fun x hx => ?_⟩
      rw [List.take_succ_cons] at hx
      rcases List.mem_cons.1 hx with rfl | hx
      · simpa using hp
      · exact h4 x hx
theorem idxR_neg (P : Rd → Bool) : ∀ (l : List Rd) (i : Nat), ¬ 0 ≤ idxR P l i → idxR P l i = -1 ∧ ∀ x ∈ l, P x = false
  | [], i, h => ⟨rfl, fun x hx => by simp at hx⟩
  | r :: l, i, h => by
    rw [idxR] at h ⊢
    by_cases hp : P r = true
    · rw [if_pos hp] at h; omega
    · rw [if_neg hp] at h ⊢
      obtain ⟨h1, h2⟩ := idxR_neg P l (i + 1) h
      refine ⟨h1, fun x hx => ?_⟩
      rcases List.mem_cons.1 hx with rfl | hx
      · simpa using hp
      · exact h2 x hx
theorem rsL_app (a b : List Rd) : rsL (a ++ b) = rsL a ++ rsL b := by simp [rsL]
theorem rsL_take {l : List Rd} {i : Nat} (h : ∀ r ∈ l, IsR r) : (rsL l).take (i * 12) = rsL (l.take i) := by
  by_cases hi : i ≤ l.length
  · have e : l = l.take i ++ l.drop i := (List.take_append_drop i l).symm
    have hlen : (rsL (l.take i)).length = i * 12 := by rw [rsL_length fun r hr => h r (List.mem_of_mem_take hr), List.length_take, Nat.min_eq_left hi]
    conv => lhs; rw [e, rsL_app]
    rw [← hlen, List.take_left]
  · rw [List.take_of_length_le (by rw [rsL_length h]; omega), List.take_of_length_le (by omega)]
theorem rsL_set {l : List Rd} {i : Nat} {r : Rd} (h : ∀ r ∈ l, IsR r) (hr : IsR r) (hi : i < l.length) : lputs (rsL l) (0 + i * 12) (rdL r) = rsL (l.set i r) := by
  rw [Nat.zero_add, lputs_mid (by rw [rdL_length hr, rsL_length h]; omega), rdL_length hr, rsL_take h, show i * 12 + 12 = (i + 1) * 12 by omega, rsL_drop h, List.set_eq_take_append_cons_drop, if_pos hi, rsL_app, rsL_cons, List.append_assoc]
theorem set_take {l : List Rd} {i : Nat} {r : Rd} (hi : i < l.length) : (l.set i r).take (i + 1) = l.take i ++ [r] := by
  apply List.ext_getElem?
  intro k
  by_cases hk : k < i
  · rw [List.getElem?_take_of_lt (by omega), List.getElem?_set_ne (by omega), List.getElem?_append_left (by rw [List.length_take]; omega), List.getElem?_take_of_lt hk]
  · by_cases hk2 : k = i
    · subst hk2
      rw [List.getElem?_take_of_lt (by omega), List.getElem?_set_self hi, List.getElem?_append_right (by rw [List.length_take]; omega), List.length_take, Nat.min_eq_left (by omega), Nat.sub_self]; rfl
    · rw [List.getElem?_eq_none (by rw [List.length_take, List.length_set]; omega), List.getElem?_eq_none (by rw [List.length_append, List.length_take, List.length_singleton]; omega)]
theorem set_drop {l : List Rd} {i j : Nat} {r : Rd} (hi : i < j) : (l.set i r).drop j = l.drop j := by
  apply List.ext_getElem?
  intro k
  rw [List.getElem?_drop, List.getElem?_drop, List.getElem?_set_ne (by omega)]
def zR : List Value := [.int .i64 0, .int .i64 0, .int .u8 0, .int .u64 0, .int .u64 0, .int .u64 0, .int .u64 0, .int .u64 0, .int .u64 0, .int .u64 0, .int .u64 0, .int .i64 0]
theorem zR_ones : ∀ n, ones (lrow n zR) = true
  | 0 => rfl
  | n + 1 => by
    show ones (lcat zR (lrow n zR)) = true
    rw [lcat_eq]
    exact ones_app rfl (zR_ones n)
set_option maxHeartbeats 4000000 in
theorem delete132 (hp : primAS T) (hf : T 132 = some f132) (hf2 : T 219 = some f219) {h : Heap} (hr : Rdy h) {lo : Nat} {l : List Rd} {v : Value} (q : CloR lo l v h) (hl : ∀ r ∈ l, IsR r) (hn : l.length < 1000000) {g : Nat} {cap : List Value} (P : Rd → Bool)
    (HP : ∀ h' : Heap, WF h' → h.next ≤ h'.next → (∀ z, z < lo → h'.get z = h.get z) → ∀ r, IsR r → Pu T g (rdV r :: cap) { h' with log := [] } (.bool (P r))) :
    Gs T 132 [v, .func (.func g) #[] cap.toArray] h (fun z => lo ≤ z) (DelR (l.filter fun r => !P r)) := by
  have sR := q.rd hl hn
  obtain ⟨a, c, rfl⟩ := sR.sl.form
  refine .of hp hf ?_ ?_
  · intro v h1 h2 hv hn2 hag hq
    refine ⟨?_, hq.2⟩
    rcases hq.sl.inv with ⟨c', rfl, h0, e⟩ | ⟨b, o, cap', rfl, s1, hc⟩
    · rw [h0, e]; exact .nil
    · cases hv
  have C := index219 hp hf2 hr sR hn P (fun r hR => by
    have := HP h hr.wf (Nat.le_refl _) (fun _ _ => rfl) r (hl r hR)
    rwa [hr.self] at this)
  refine y4 ?_; refine yM ?_; refine y3 ?_; refine y4 ?_; refine yM ?_; refine yM ?_
  refine yC ?_
  refine FW.pu (by rw [hr.self]; exact C) ?_
  clear C
  by_cases hi : 0 ≤ idxR P l 0
  · obtain ⟨k, rk, h1, h2, h3, h4⟩ := idxR_pos P l 0 hi
    rw [Nat.zero_add] at h3
    rw [h3]
    have hkl : k < l.length := (List.getElem?_eq_some_iff.1 h1).1
    rcases q with ⟨_, rfl⟩ | ⟨b, hb1, hb2, hb3, ⟨rfl, _⟩ | ⟨hne, hv⟩⟩
    · simp at hkl
    · simp at hkl
    · cases hv
      have m1 : numOp .eql (.int .i64 (k : Nat)) (.int .i64 (-1)) = some (.bool false) := m_eqlF (by omega)
      refine yM ?_; refine y3 ?_; refine wE_seq ?_; refine y4 ?_; refine yM ?_; refine wO_val (a_num (by exact rfl) (by exact rfl) (by with_reducible assumption)) ?_; refine y3 ?_; refine yX ?_; refine wE_skip ?_; refine kS_n ?_; refine wE_seq ?_; refine y4 ?_; refine yM ?_; refine yinc ?_
      refine yM ?_; refine y3 ?_; refine wE_block ?_
      refine wE_loop (fun mm e ds h' => ∃ (j i : Nat) (m : List Rd), j ≤ l.length ∧ i < j ∧ mm = l.length - j ∧ e = [(0, .slice (some ⟨b, 0, none⟩) l.length UNK), (1, .func (.func g) #[] cap.toArray), (5, .int .i64 (i : Nat)), (6, .int .i64 (j : Nat))] ∧ ds = [] ∧
          WF h' ∧ h.next ≤ h'.next ∧ (∀ z, z < lo → h'.get z = h.get z) ∧ (∀ z ∈ h'.log, lo ≤ z) ∧ h'.get b = some (.cells (rsL m) true 12) ∧ m.length = l.length ∧ (∀ r ∈ m, IsR r) ∧ m.take i = (l.take j).filter (fun r => !P r) ∧ m.drop j = l.drop j)
        ⟨k + 1, k, l, hkl, Nat.lt_succ_self _, rfl, rfl, rfl, hr.wf, Nat.le_refl _, fun _ _ => rfl, (by rw [hr.log]; intro z hz; cases hz), hb3, rfl, hl, ?_, rfl⟩ ?_
      · rw [take_at h1, h2]
        simp only [Bool.not_true, Bool.false_eq_true, if_false, List.append_nil]
        exact (List.filter_eq_self.2 (fun x hx => by rw [h4 x hx]; rfl)).symm
      rintro mm e ds H ⟨j, i, m, hj, hij, rfl, rfl, rfl, hw, hnx, hold, hlg, gb, hm, hmR, htk, hdr⟩
      have hbn : b < H.next := WF.get_lt hw gb
      by_cases hlt : j < l.length
      · obtain ⟨r, hr1⟩ : ∃ r, l[j]? = some r := ⟨l[j], List.getElem?_eq_getElem hlt⟩
        have hmj : m[j]? = some r := by
          have e1 : (m.drop j)[0]? = (l.drop j)[0]? := by rw [hdr]
          rw [List.getElem?_drop, List.getElem?_drop] at e1
          exact e1.trans hr1
        have hrR := hmR r (List.mem_of_getElem? hmj)
        have ra := (RdAt.mk' hrR (rsL_at hmR hmj)).all
        have ra0 : ltake 12 (ldrop (0 + j * 12) (rsL m)) = rdL r := by rw [Nat.zero_add]; exact ra
        have rl := rdL_llen hrR
        have rl2 := rdL_length hrR
        have ro := rdL_ones r
        have ral := rdL_all hrR
        refine wE_seq ?_; refine y4 ?_; refine yM ?_; refine yM ?_; refine yD ?_; refine yt ?_; refine y3 ?_
        refine yY ?_; refine wE_skip ?_; refine kS_n ?_; refine wE_seq ?_; refine wE_block ?_; refine y4 ?_; refine yM ?_; refine yM ?_; refine wO_val (a_iaddrS (by exact rfl) (by exact rfl) (by omega)) ?_; refine wO_val (a_loadN (by exact rfl) (by assumption) (by assumption) (by assumption)) ?_
        refine wO_val (a_new) ?_; refine wO_val (a_storeAll (by exact rfl) (by exact rfl) (by (simp (disch := first | omega | (simp only [z1, z2]; omega)) only [z3, z4, z5, z6, z7, z1, z2, hb3, gb]; exact rfl)) (by assumption) (by exact rfl) (by assumption)) ?_; refine y3 ?_; refine y4 ?_; refine yM ?_
        refine wO_val (a_loadN (by exact rfl) (by (simp (disch := first | omega | (simp only [z1, z2]; omega)) only [z3, z4, z5, z6, z7, z1, z2, hb3, gb]; exact rfl)) (by assumption) (by assumption)) ?_
        have W2 : WF (((H.push (.cells zR true 1)).wr h.next H.next (.cells (rdL r) true 1))) := (hw.push (.cells zR true 1)).as (AS.wr h.next _ _ _)
        have HPr := HP _ W2 (show h.next ≤ H.next + 1 by omega) (fun z hz => by
          rw [z5 (by omega), z4 (by omega)]; exact hold z hz) r hrR
        refine wO_call (a_call (all := rdV r :: cap) (by exact rfl) (by exact rfl) (by exact rfl) (by rw [lcat_eq, lcat_eq]; simp [rdV])) ?_
        refine FW.pu HPr ?_
        clear HPr
        have hlg2 : ∀ z ∈ (((H.push (.cells zR true 1)).wr h.next H.next (.cells (rdL r) true 1))).log, lo ≤ z := by
          rw [Heap.log_wr_new hnx]; exact hlg
        have gb2 : (((H.push (.cells zR true 1)).wr h.next H.next (.cells (rdL r) true 1))).get b = some (.cells (rsL m) true 12) := by
          rw [z5 (by omega), z4 hbn]; exact gb
        have gn2 : (((H.push (.cells zR true 1)).wr h.next H.next (.cells (rdL r) true 1))).get H.next = some (.cells (rdL r) true 1) := by
          rw [z6, z3]; rfl
        have hold2 : ∀ z, z < lo → (((H.push (.cells zR true 1)).wr h.next H.next (.cells (rdL r) true 1))).get z = h.get z := fun z hz => by
          rw [z5 (by omega), z4 (by omega)]; exact hold z hz
        have hnx2 : (((H.push (.cells zR true 1)).wr h.next H.next (.cells (rdL r) true 1))).next = H.next + 1 := rfl
        unfold zR at *
        generalize (((H.push (.cells _ true 1)).wr h.next H.next (.cells (rdL r) true 1))) = H2 at *
        cases hp : P r with
        | true =>
          refine yA ?_; refine y3 ?_; refine yX ?_; refine wE_skip ?_; refine kB_n ?_; refine kS_n ?_; refine wE_region ?_; refine yM ?_
          refine yinc ?_; refine yM ?_; refine y3 ?_
          refine ⟨l.length - (j + 1), by omega, j + 1, i, m, by omega, by omega, rfl, rfl, rfl, W2, by omega, hold2, hlg2, gb2, hm, hmR, ?_, ?_⟩
          · rw [take_at hr1, hp, htk]; simp
          · rw [← List.drop_drop, ← List.drop_drop, hdr]
        | false =>
          have kc : (Nat.beq (llen (cellsOf (.agg (rdL r).toArray))) 12 && Nat.ble (0 + i * 12 + 12) (llen (rsL m)) && ones (cellsOf (.agg (rdL r).toArray))) = true := by
            have e : cellsOf (.agg (rdL r).toArray) = rdL r := by show (rdL r).toArray.toList = _; simp
            rw [e, rl, ro, llen_eq, rsL_length hmR, nble_of (by omega)]; rfl
          have kw : lputs (rsL m) (0 + i * 12) (cellsOf (.agg (rdL r).toArray)) = rsL (m.set i r) := by
            have e : cellsOf (.agg (rdL r).toArray) = rdL r := by show (rdL r).toArray.toList = _; simp
            rw [e, rsL_set hmR hrR (by omega)]
          refine yA ?_; refine y3 ?_; refine yY ?_; refine y4 ?_; refine yM ?_; refine yM ?_
          refine wO_val (a_loadN (by exact rfl) (by assumption) (by assumption) (by assumption)) ?_; refine wO_val (a_iaddrS (by exact rfl) (by exact rfl) (by omega)) ?_
          refine wO_val (a_store (by exact rfl) (by exact rfl) gb2 kc kw) ?_
          refine y3 ?_; refine wE_region ?_; refine yM ?_; refine yinc ?_; refine yM ?_; refine wO_nil ?_
          refine y1 ?_; refine kB_n ?_; refine kS_n ?_; refine wE_region ?_; refine yM ?_; refine yinc ?_; refine yM ?_; refine y3 ?_
          refine ⟨l.length - (j + 1), by omega, j + 1, i + 1, m.set i r, by omega, by omega, rfl, rfl, rfl, W2.as (AS.wr h.next _ _ _), (by show h.next ≤ H2.next; omega), ?_, wr_log hlg2 hb1, ?_, by rw [List.length_set]; exact hm, ?_, ?_, ?_⟩
          · intro z hz
            rw [z5 (by omega)]; exact hold2 z hz
          · rw [z6, gb2]; rfl
          · intro x hx
            rcases List.mem_or_eq_of_mem_set hx with hx | rfl
            · exact hmR x hx
            · exact hrR
          · rw [set_take (by omega), take_at hr1, hp, htk]; simp
          · rw [set_drop (by omega), ← List.drop_drop, ← List.drop_drop, hdr]
      · obtain rfl : j = l.length := by omega
        rw [List.take_length] at htk
        have hz : (lrow (l.length - i) zR).length = (l.length - i) * 12 := by rw [lrow_length]; rfl
        have hle : i ≤ l.length := by omega
        refine wE_seq ?_; refine y4 ?_; refine yM ?_; refine yM ?_; refine yD ?_; refine yf ?_; refine y3 ?_
        refine yX ?_; refine wE_exit ?_; refine kS_e ?_; refine kS_e ?_; refine kB_e ?_; refine kS_n ?_; refine y4 ?_; refine yM ?_; refine yM ?_; refine wO_val (a_slice_lo (by exact rfl) (by exact rfl) (by assumption) (by omega)) ?_
        refine wO_val (a_clear (by exact rfl) (by omega) gb (by unfold zR at hz; rw [hz, rsL_length hmR]; omega) (by exact zR_ones _) rfl) ?_
        refine y3 ?_; refine y4 ?_; refine yM ?_; refine yM ?_
        refine wO_val (a_slice_hi (by exact rfl) (by exact rfl) (by (simp (disch := first | omega | (simp only [z1, z2]; omega)) only [z3, z4, z5, z6, z7, z1, z2, hb3, gb]; exact rfl)) (by omega) (by omega)) ?_; refine yM ?_; refine y3 ?_; refine wE_ret ?_
        refine endS_ret (wr_log hlg hb1) rfl ?_
        have hi2 : (l.filter fun r => !P r).length = i := by
          rw [← htk, List.length_take]; omega
        refine ⟨?_, fun x hx => hl x (List.mem_filter.1 hx).1⟩
        show SliceOf _ 12 (.slice (some ⟨b, 0, none⟩) i UNK) (l.filter fun r => !P r).length _
        rw [hi2]
        refine .mem ⟨hbn, ⟨_, _, _, (by rw [z6, gb]; rfl), ?_⟩, ?_⟩ (by unfold UNK; omega)
        · have hmid := lputs_mid (l := rsL m) (m := lrow (l.length - i) zR) (o := 0 + i * 12) (by rw [hz, rsL_length hmR]; omega)
          unfold zR at hmid
          rw [hmid, ltake_eq, ldrop_eq, List.drop_zero, List.append_assoc, List.take_append_of_le_length (by rw [List.length_take, rsL_length hmR]; omega), Nat.zero_add, List.take_take, Nat.min_self, rsL_take hmR, htk]
        · rw [rsL_length fun x hx => hl x (List.mem_filter.1 hx).1, hi2]
  · obtain ⟨h1, h2⟩ := idxR_neg P l 0 hi
    rw [h1]
    refine yM ?_; refine y3 ?_; refine wE_seq ?_; refine y4 ?_; refine yM ?_; refine yt ?_; refine y3 ?_; refine yY ?_; refine y4 ?_; refine yM ?_; refine yM ?_; refine y3 ?_; refine wE_ret ?_; refine kS_r ?_
    refine endS_ret (by rw [hr.log]; intro z hz; cases hz) rfl ?_
    show RdS h (.slice a l.length c) _
    rw [List.filter_eq_self.2 (fun x hx => by rw [h2 x hx]; rfl)]
    exact sR
end Go.A.Pk
end
section
set_option maxRecDepth 100000
namespace Go.A.Pk
variable {T : Nat → Option AFunc}
theorem maker216 (hp : primAS T) (hf : T 216 = some f216) {h : Heap} (hr : Rdy h) (z : Int) :
    Al T 216 [.int .i64 z] h (fun v h' => ∃ b, h.next ≤ b ∧ b < h'.next ∧ v = .func (.func 217) #[] #[.pointer (some ⟨b, 0, none⟩)] ∧ Box h' b (.int .i64 z)) := by
  refine .of hp hf hr ?_ ?_
  · rintro v h1 hv ⟨b, _, _, rfl, _⟩
    cases hv
  refine y4 ?_; refine yB ?_; refine yM ?_; refine y3 ?_; refine y4 ?_; refine wO_val (a_mkFunc (by exact rfl) (by exact rfl)) ?_
  refine yM ?_; refine y3 ?_; refine wE_ret ?_
  refine endA_ret hr.log rfl ⟨h.next, Nat.le_refl _, Nat.lt_succ_self _, rfl, ?_⟩
  show (h.push _).get h.next = _
  rw [z3]; rfl
def lateR (l : List Rd) (r : Rd) : Bool := match l.getLast? with
  | some q => decide (r.known < q.known)
  | none => false
def badR (l : List Rd) (r : Rd) : Bool := match l.find? (fun q => decide (q.id = r.of)) with
  | some q => decide (q.kind = 3)
  | none => true
def folR (l : List Rd) (r : Rd) : Int :=
  if 200 ≤ l.length then 2 else if ckR r ≠ 0 then 1 else if l.any (fun q => decide (q.id = r.id)) then 6 else if lateR l r then 7 else if r.kind ≠ 3 then 0 else if badR l r then 5 else if voidR l r.of then 6 else 0
theorem find_pos {P : Rd → Bool} : ∀ {l : List Rd} {k : Nat} {q : Rd}, l[k]? = some q → P q = true → (∀ x ∈ l.take k, P x = false) → l.find? P = some q
  | [], k, q, h, _, _ => by simp at h
  | x :: l, 0, q, h, hp, _ => by
    simp at h; subst h
    rw [List.find?_cons_of_pos hp]
  | x :: l, k + 1, q, h, hp, ht => by
    have hx : P x = false := ht x (by simp)
    rw [List.find?_cons_of_neg (by rw [hx]; simp)]
    exact find_pos (k := k) (by simpa using h) hp fun y hy => ht y (by simp [hy])
structure FnsFo (T : Nat → Option AFunc) : Prop extends FnsRd T where
  f129 : T 129 = some f129
  f216 : T 216 = some f216
  f217 : T 217 = some f217
  vo : FnsVo T
theorem m_gtr0 {n : Nat} : numOp .gtr (.int .i64 (n : Nat)) (.int .i64 0) = some (.bool (decide (0 < n))) := by
  rw [m_gtr]
  congr 2
  exact decide_eq_decide.2 (by omega)
set_option maxHeartbeats 8000000 in
theorem follows129 (F : FnsFo T) {h : Heap} (hr : Rdy h) {a : Option Addr} {n c : Nat} {l : List Rd} (s : RdS h (.slice a n c) l) (hn : n < 1000000) {r : Rd} (hR : IsR r) : Pu T 129 [.slice a n c, rdV r] h (.int .i64 (folR l r)) := by
  refine .of F.p F.f129 hr rfl ?_
  obtain rfl := s.len
  have k12 := rdL_all hR
  have l12 := rdL_llen hR
  have k11 := rdL_of hR
  have hrb : (h.push (.cells (cellsOf (rdV r)) true 1)).get h.next = some (.cells (rdL r) true 1) := z3 h _
  have W : WF (h.push (.cells (cellsOf (rdV r)) true 1)) := hr.wf.push _
  have x : Ext h (h.push (.cells (cellsOf (rdV r)) true 1)) := (Ext.refl h).push _
  have hnx : h.next < (h.push (.cells (cellsOf (rdV r)) true 1)).next := Nat.lt_succ_self _
  have C1 := check47 F.toFnsRd (.of W) hR
  unfold folR
  refine y4 ?_; refine yB ?_; refine yM ?_; refine y3 ?_; refine y4 ?_; refine yM ?_; refine y3 ?_
  generalize (h.push (.cells (cellsOf (rdV r)) true 1)) = H at *
  by_cases g1 : 200 ≤ l.length
  · rw [if_pos g1]
    refine wE_seq ?_; refine wE_block ?_; refine y4 ?_; refine yM ?_; refine yD ?_; refine yt ?_; refine yM ?_; refine y3 ?_; refine yY ?_; refine y4 ?_; refine yM ?_; refine y3 ?_; refine wE_ret ?_; refine kB_r ?_
    refine kS_r ?_
    exact endP_ret (x.log.trans hr.log) rfl rfl
  rw [if_neg g1]
  refine wE_seq ?_; refine wE_block ?_; refine y4 ?_; refine yM ?_; refine yD ?_; refine yf ?_; refine yM ?_; refine y3 ?_; refine yX ?_; refine y4 ?_; refine wO_val (a_loadN (by exact rfl) (by assumption) (by assumption) (by assumption)) ?_
  refine yC ?_
  refine FW.pu C1 ?_
  by_cases g2 : ckR r = 0
  · rw [if_neg (fun q => q g2), g2]
    clear C1
    refine yf ?_; refine yM ?_; refine y3 ?_; refine yX ?_; refine y4 ?_; refine yM ?_
    refine yM ?_; refine yF ?_; refine yL ?_
    refine yC ?_
    refine FW.al (maker216 F.p F.f216 (.of W) r.id) (fun v h' m q => q) ?_
    rintro v H1 x1 ⟨b1, hb1, hb2, rfl, hb3⟩
    have W1 := x1.wf W
    have s1 := (s.ext (x.trans x1)).log []
    have hrb1 := (x1.old _ hnx).trans hrb
    have C2 := contains218 F.p F.vo.f218 F.vo.f219 (.of W1) s1 hn (g := 217) (cap := [.pointer (some ⟨b1, 0, none⟩)]) (fun q => decide (q.id = r.id)) (fun q _ => has217 F.p F.f217 (.of W1) hb3 q)
    skip
    refine yC ?_
    refine FW.pu C2 ?_
    clear C2
    cases hany : l.any fun q => decide (q.id = r.id) with
    | true =>
      rw [if_pos rfl]
      refine yM ?_; refine y3 ?_; refine yY ?_; refine y4 ?_; refine yM ?_; refine y3 ?_; refine wE_ret ?_; refine kB_r ?_; refine kS_r ?_
      exact endP_ret ((x1.log.trans x.log).trans hr.log) rfl rfl
    | false =>
      rw [if_neg (by simp)]
      have hL1 : H1.log = [] := (x1.log.trans x.log).trans hr.log
      have hn1 : h.next < H1.next := Nat.lt_of_lt_of_le hnx x1.next
      clear hany hb1 hb2 hb3 hrb hnx
      generalize hlt : lateR l r = lt
      refine yM ?_; refine y3 ?_; refine yX ?_
      refine wE_cutE (E := [(0, .slice a l.length c), (3, .pointer (some ⟨h.next, 0, none⟩)), (5, .func (.func 216) #[] #[]), (22, .bool lt)]) (H := H1) ?_ ?_
      · have m1 := m_gtr0 (n := l.length)
        cases hlast : l.getLast? with
        | none =>
          have hl0 : l = [] := by simpa using hlast
          have hlt2 : lt = false := by rw [← hlt]; unfold lateR; rw [hlast]
          subst hlt2
          rw [show decide (0 < l.length) = false by rw [hl0]; rfl] at m1
          refine wE_draw ?_; refine qM ?_; refine wD_quiet rfl rfl rfl (by exact rfl) (by exact rfl) (by exact rfl) (a_len1 (by exact rfl)) ?_; refine wD_quiet rfl rfl rfl (by exact rfl) (by exact rfl) (by exact rfl) (a_num (by exact rfl) (by exact rfl) (by with_reducible assumption)) ?_
          refine qM ?_; refine wD_off rfl rfl rfl (by exact rfl) ?_; refine wD_off rfl rfl rfl (by exact rfl) ?_; refine wD_off rfl rfl rfl (by exact rfl) ?_; refine wD_off rfl rfl rfl (by exact rfl) ?_; refine wD_off rfl rfl rfl (by exact rfl) ?_; refine wD_off rfl rfl rfl (by exact rfl) ?_
          refine wD_off rfl rfl rfl (by exact rfl) ?_; refine wD_off rfl rfl rfl (by exact rfl) ?_; refine wD_off rfl rfl rfl (by exact rfl) ?_; refine wD_off rfl rfl rfl (by exact rfl) ?_; refine wD_quiet rfl rfl rfl (by exact rfl) (by exact rfl) (by exact rfl) (a_pickF (by exact rfl) (by exact rfl)) ?_; refine qM ?_
          refine wD_nil ?_; refine y1 ?_
          exact ⟨rfl, rfl, rfl, rfl⟩
        | some q =>
          have hlt2 : lt = decide (r.known < q.known) := by rw [← hlt]; unfold lateR; rw [hlast]
          have hne : l ≠ [] := by intro e; rw [e] at hlast; simp at hlast
          have hpos : 0 < l.length := List.length_pos_iff.2 hne
          have hq : l[l.length - 1]? = some q := by rw [← List.getLast?_eq_getElem?]; exact hlast
          rw [decide_eq_true hpos] at m1
          obtain ⟨b, o, vs, own, t, rfl, e1, e2, hb, _⟩ := (s.ext (x.trans x1)).elem hq
          have m2 : numOp .sub (.int .i64 (l.length : Nat)) (.int .i64 1) = some (.int .i64 ((l.length - 1 : Nat) : Int)) := m_sub (by rw [wrapA_i64] <;> omega)
          have e3 := e2.known
          have m3 : numOp .lss (.int .i64 r.known) (.int .i64 q.known) = some (.bool lt) := by rw [hlt2]; exact m_lss
          clear hlt hlt2
          refine wE_draw ?_; refine qM ?_; refine wD_quiet rfl rfl rfl (by exact rfl) (by exact rfl) (by exact rfl) (a_len1 (by exact rfl)) ?_; refine wD_quiet rfl rfl rfl (by exact rfl) (by exact rfl) (by exact rfl) (a_num (by exact rfl) (by exact rfl) (by with_reducible assumption)) ?_
          refine qM ?_; refine qF ?_; refine qL ?_
          refine qM ?_; refine qM ?_; refine wD_quiet rfl rfl rfl (by exact rfl) (by exact rfl) (by exact rfl) (a_len1 (by exact rfl)) ?_
          refine wD_quiet rfl rfl rfl (by exact rfl) (by exact rfl) (by exact rfl) (a_num (by exact rfl) (by exact rfl) (by with_reducible assumption)) ?_; refine wD_quiet rfl rfl rfl (by exact rfl) (by exact rfl) (by exact rfl) (a_iaddrS (by exact rfl) (by exact rfl) (by omega)) ?_; refine qF ?_
          refine wD_quiet rfl rfl rfl (by exact rfl) (by exact rfl) (by exact rfl) (a_load (by exact rfl) (by assumption) (by assumption)) ?_; refine wD_quiet rfl rfl rfl (by exact rfl) (by exact rfl) (by exact rfl) (a_num (by exact rfl) (by exact rfl) (by with_reducible assumption)) ?_; refine wD_quiet rfl rfl rfl (by exact rfl) (by exact rfl) (by exact rfl) (a_pickT (by exact rfl) (by exact rfl)) ?_
          refine qM ?_; refine wD_nil ?_; refine y1 ?_
          exact ⟨rfl, rfl, rfl, rfl⟩
      cases lt with
      | true =>
        rw [if_pos rfl]
        refine yY ?_; refine y4 ?_; refine yM ?_; refine y3 ?_; refine wE_ret ?_; refine kB_r ?_; refine kS_r ?_
        exact endP_ret hL1 rfl rfl
      | false =>
        rw [if_neg (by simp)]
        have m3 : numOp .neq (.int .u8 (r.kind : Nat)) (.int .u8 3) = some (.bool (decide (r.kind ≠ 3))) := by
          rw [m_neq]
          by_cases hk : r.kind = 3
          · rw [hk]; rfl
          · rw [decide_eq_true hk]
            have : ((r.kind : Int) == 3) = false := by simp; omega
            simp only [bne, this]; rfl
        by_cases hk : r.kind = 3
        · rw [if_neg (fun q => q hk)]
          rw [decide_eq_false (fun q => q hk)] at m3
          refine yX ?_; refine y4 ?_; refine yF ?_; refine yL ?_; refine wO_val (a_num (by exact rfl) (by exact rfl) (by with_reducible assumption)) ?_; refine yM ?_; refine y3 ?_; refine yX ?_; refine wE_skip ?_; refine kB_n ?_; refine kS_n ?_; refine wE_seq ?_; refine y4 ?_; refine yM ?_; refine yM ?_; refine yF ?_
          refine wO_val (a_load (by exact rfl) (by assumption) (by assumption)) ?_
          refine yC ?_
          refine FW.al (maker216 F.p F.f216 (.of W1) r.of) (fun v h' m q => q) ?_
          rintro v H2 x2 ⟨b2, hb1, hb2, rfl, hb3⟩
          have W2 := x2.wf W1
          have s2 := (s.ext (x.trans (x1.trans x2)))
          have C3 := index219 F.p F.vo.f219 (.of W2) (s2.log []) hn (g := 217) (cap := [.pointer (some ⟨b2, 0, none⟩)]) (fun q => decide (q.id = r.of)) (fun q _ => has217 F.p F.f217 (.of W2) hb3 q)
          have hrb2 := (x2.old _ hn1).trans hrb1
          have hL2 : H2.log = [] := x2.log.trans hL1
          have C4 := voids135 F.vo (.of W2) (s2.log []) hn r.of
          have hn2 : h.next < H2.next := Nat.lt_of_lt_of_le hn1 x2.next
          clear hb1 hb2 hb3 hrb1
          skip
          refine yC ?_
          refine FW.pu C3 ?_
          clear C3
          by_cases hi : 0 ≤ idxR (fun q => decide (q.id = r.of)) l 0
          · obtain ⟨k, q, q1, q2, q3, q4⟩ := idxR_pos _ l 0 hi
            rw [Nat.zero_add] at q3
            rw [q3]
            have hbad : badR l r = decide (q.kind = 3) := by
              unfold badR; rw [find_pos q1 q2 q4]
            rw [hbad]
            obtain ⟨b, o, vs, own, t, rfl, e1, e2, hb, _⟩ := s2.elem q1
            have hkl : k < l.length := (List.getElem?_eq_some_iff.1 q1).1
            have e3 := e2.kind
            have m4 : numOp .lss (.int .i64 (k : Nat)) (.int .i64 0) = some (.bool false) := m_lssF (by omega)
            have m5 : numOp .eql (.int .u8 (q.kind : Nat)) (.int .u8 3) = _ := m_eqI (c := 3) rfl
            generalize decide (q.kind = 3) = c3 at m5 ⊢
            cases c3 with
            | true =>
              rw [if_pos rfl]
              refine yM ?_; refine y3 ?_; refine y4 ?_; refine yM ?_; refine wO_val (a_num (by exact rfl) (by exact rfl) (by with_reducible assumption)) ?_; refine yM ?_
              refine yO ?_; refine yM ?_; refine yO ?_; refine yM ?_; refine yO ?_; refine wO_val (a_iaddrS (by exact rfl) (by exact rfl) (by omega)) ?_; refine yO ?_; refine yF ?_; refine yO ?_
              refine wO_val (a_load (by exact rfl) (by assumption) (by assumption)) ?_; refine yO ?_; refine wO_val (a_num (by exact rfl) (by exact rfl) (by with_reducible assumption)) ?_; refine yU ?_; refine y3 ?_
              refine yY ?_; refine y4 ?_; refine yM ?_; refine y3 ?_; refine wE_ret ?_; refine kS_r ?_
              exact endP_ret hL2 rfl rfl
            | false =>
              rw [if_neg (by simp)]
              refine yM ?_; refine y3 ?_; refine y4 ?_; refine yM ?_; refine wO_val (a_num (by exact rfl) (by exact rfl) (by with_reducible assumption)) ?_; refine yM ?_
              refine yO ?_; refine yM ?_; refine yO ?_; refine yM ?_; refine yO ?_; refine wO_val (a_iaddrS (by exact rfl) (by exact rfl) (by omega)) ?_; refine yO ?_; refine yF ?_; refine yO ?_
              refine wO_val (a_load (by exact rfl) (by assumption) (by assumption)) ?_; refine yO ?_; refine wO_val (a_num (by exact rfl) (by exact rfl) (by with_reducible assumption)) ?_; refine yU ?_; refine y3 ?_
              refine yX ?_; refine wE_skip ?_; refine kS_n ?_; refine wE_seq ?_; refine y4 ?_; refine yM ?_; refine yF ?_; refine wO_val (a_load (by exact rfl) (by assumption) (by assumption)) ?_
              refine yC ?_
              refine FW.pu C4 ?_
              clear C4
              cases voidR l r.of with
              | true =>
                rw [if_pos rfl]
                refine y3 ?_; refine yY ?_; refine y4 ?_; refine yM ?_; refine y3 ?_; refine wE_ret ?_
                refine kS_r ?_
                exact endP_ret hL2 rfl rfl
              | false =>
                rw [if_neg (by simp)]
                refine y3 ?_; refine yX ?_; refine wE_skip ?_; refine kS_n ?_; refine y4 ?_; refine yM ?_; refine y3 ?_; refine wE_ret ?_
                exact endP_ret hL2 rfl rfl
          · obtain ⟨q1, q2⟩ := idxR_neg _ l 0 hi
            rw [q1]
            have hbad : badR l r = true := by
              unfold badR
              rw [List.find?_eq_none.2 (fun x hx => by rw [q2 x hx]; simp)]
            rw [hbad, if_pos rfl]
            have m4 : numOp .lss (.int .i64 (-1)) (.int .i64 0) = some (.bool true) := m_lssT (by omega)
            refine yM ?_; refine y3 ?_; refine y4 ?_; refine yM ?_; refine wO_val (a_num (by exact rfl) (by exact rfl) (by with_reducible assumption)) ?_; refine yM ?_
            refine yP ?_; refine yP ?_; refine yP ?_; refine yP ?_; refine yP ?_; refine yP ?_; refine yT ?_; refine y3 ?_; refine yY ?_; refine y4 ?_; refine yM ?_; refine y3 ?_; refine wE_ret ?_; refine kS_r ?_
            exact endP_ret hL2 rfl rfl
        · rw [if_pos hk]
          rw [decide_eq_true hk] at m3
          refine yX ?_; refine y4 ?_; refine yF ?_; refine yL ?_; refine wO_val (a_num (by exact rfl) (by exact rfl) (by with_reducible assumption)) ?_; refine yM ?_; refine y3 ?_; refine yY ?_; refine y4 ?_; refine yM ?_; refine y3 ?_; refine wE_ret ?_; refine kB_r ?_
          refine kS_r ?_
          exact endP_ret hL1 rfl rfl
  · rw [if_pos g2]
    have hc : ckR r = 1 := by
      unfold ckR at g2 ⊢
      split at g2
      · exact (g2 rfl).elim
      · rename_i q; rw [if_neg q]
    rw [hc]
    refine yt ?_; refine yM ?_; refine y3 ?_; refine yY ?_; refine y4 ?_; refine yM ?_; refine y3 ?_; refine wE_ret ?_; refine kB_r ?_; refine kS_r ?_
    exact endP_ret (x.log.trans hr.log) rfl rfl
end Go.A.Pk
end
section
set_option maxRecDepth 100000
namespace Go.A.Pk
variable {T : Nat → Option AFunc}
def namedR (l : List Rd) (z : Int) : Bool := l.any fun q => decide (q.kind ≠ 3) && decide (q.id = z)
def refR (l : List Rd) (r : Rd) : Int :=
  if 200 ≤ l.length then 2 else if ckR r ≠ 0 then 1 else if l.any (fun q => decide (q.id = r.id)) then 6 else if lateR l r then 7 else if r.kind ≠ 3 then 0 else if !namedR l r.of then 5 else if voidR l r.of then 6 else 0
structure FnsRf (T : Nat → Option AFunc) : Prop extends FnsRr T where
  f130 : T 130 = some f130
theorem any_take {l : List Rd} {i : Nat} {q : Rd} (hq : l[i]? = some q) (P : Rd → Bool) : (l.take (i + 1)).any P = ((l.take i).any P || P q) := by
  obtain ⟨hlt, rfl⟩ := List.getElem?_eq_some_iff.1 hq
  rw [List.take_succ_eq_append_getElem hlt, List.any_append]; simp
theorem m_neK {k : Nat} : numOp .neq (.int .u8 (k : Nat)) (.int .u8 3) = some (.bool (decide (k ≠ 3))) := by
  rw [m_neq]
  by_cases hk : k = 3
  · rw [hk]; rfl
  · rw [decide_eq_true hk]
    have : ((k : Int) == 3) = false := by simp; omega
    simp only [bne, this]; rfl
set_option maxHeartbeats 8000000 in
theorem refused130 (F : FnsRf T) {h : Heap} (hr : Rdy h) {a : Option Addr} {n c : Nat} {l : List Rd} (s : RdS h (.slice a n c) l) (hn : n < 1000000) {r : Rd} (hR : IsR r) : Pu T 130 [.slice a n c, rdV r] h (.int .i64 (refR l r)) := by
  refine .of F.p F.f130 hr rfl ?_
  obtain rfl := s.len
  have k12 := rdL_all hR
  have l12 := rdL_llen hR
  have k11 := rdL_of hR
  have hrb : (h.push (.cells (cellsOf (rdV r)) true 1)).get h.next = some (.cells (rdL r) true 1) := z3 h _
  have W : WF (h.push (.cells (cellsOf (rdV r)) true 1)) := hr.wf.push _
  have x : Ext h (h.push (.cells (cellsOf (rdV r)) true 1)) := (Ext.refl h).push _
  have hnx : h.next < (h.push (.cells (cellsOf (rdV r)) true 1)).next := Nat.lt_succ_self _
  have C1 := check48 F.toFnsRr (.of W) hR
  unfold refR
  refine y4 ?_; refine yB ?_; refine yM ?_; refine y3 ?_
  generalize (h.push (.cells (cellsOf (rdV r)) true 1)) = H at *
  have hL : H.log = [] := x.log.trans hr.log
  by_cases g1 : 200 ≤ l.length
  · rw [if_pos g1]
    refine wE_seq ?_; refine y4 ?_; refine yM ?_; refine yD ?_; refine yt ?_; refine y3 ?_; refine yY ?_
    refine y4 ?_; refine yM ?_; refine y3 ?_; refine wE_ret ?_; refine kS_r ?_
    exact endP_ret hL rfl rfl
  rw [if_neg g1]
  refine wE_seq ?_; refine y4 ?_; refine yM ?_; refine yD ?_; refine yf ?_; refine y3 ?_; refine yX ?_
  refine wE_skip ?_; refine kS_n ?_; refine wE_seq ?_; refine y4 ?_; refine wO_val (a_loadN (by exact rfl) (by assumption) (by assumption) (by assumption)) ?_
  refine yC ?_
  refine FW.pu C1 ?_
  by_cases g2 : ckR r = 0
  · rw [if_neg (fun q => q g2), g2]
    clear C1
    refine yf ?_; refine y3 ?_; refine yX ?_; refine wE_skip ?_; refine kS_n ?_; refine y4 ?_; refine yM ?_; refine y3 ?_; refine y4 ?_; refine yM ?_; refine y3 ?_; refine wE_seq ?_; refine y4 ?_
    refine yM ?_; refine y3 ?_; refine wE_block ?_
    refine wE_loop (fun m e ds h' => ∃ i : Nat, i ≤ l.length ∧ m = l.length - i ∧ e = [(0, .slice a l.length c), (3, .pointer (some ⟨h.next, 0, none⟩)), (5, .bool (namedR (l.take i) r.of)), (6, .bool (voidR (l.take i) r.of)), (7, .int .i64 (i : Nat))] ∧ ds = [] ∧ H = h' ∧ (l.take i).any (fun q => decide (q.id = r.id)) = false)
      ⟨0, Nat.zero_le _, rfl, rfl, rfl, rfl, rfl⟩ ?_
    rintro m e ds _ ⟨i, hin, rfl, rfl, rfl, rfl, hany⟩
    by_cases hlt : i < l.length
    · obtain ⟨q, hq⟩ : ∃ q, l[i]? = some q := ⟨l[i], List.getElem?_eq_getElem hlt⟩
      have hqR := s.ok q (List.mem_of_getElem? hq)
      obtain ⟨b, o, vs, own, t, rfl, e1, e2, hb, _⟩ := (s.ext x).elem hq
      have f1 := e2.id
      have f2 := e2.kind
      have f3 := e2.of
      have m1 := m_eqlI (a := q.id) (b := r.id)
      have m2 := m_eqlI (a := q.id) (b := r.of)
      have m3 := m_eqlI (a := q.of) (b := r.of)
      have m4 := m_neK (k := q.kind)
      have m5 : numOp .eql (.int .u8 (q.kind : Nat)) (.int .u8 3) = _ := m_eqI (c := 3) rfl
      have hN : namedR (l.take (i + 1)) r.of = (namedR (l.take i) r.of || (decide (q.kind ≠ 3) && decide (q.id = r.of))) := any_take hq _
      have hV : voidR (l.take (i + 1)) r.of = (voidR (l.take i) r.of || (decide (q.kind = 3) && decide (q.of = r.of))) := any_take hq _
      have hA := any_take hq (fun q => decide (q.id = r.id))
      rw [hany, Bool.false_or] at hA
      generalize decide (q.id = r.of) = d2 at m2 hN
      generalize decide (q.of = r.of) = d3 at m3 hV
      generalize decide (q.kind ≠ 3) = d4 at m4 hN
      generalize decide (q.kind = 3) = d5 at m5 hV
      generalize namedR (l.take i) r.of = nm at hN ⊢
      generalize voidR (l.take i) r.of = vd at hV ⊢
      cases hd : decide (q.id = r.id) with
      | true =>
        rw [hd] at m1
        have : l.any (fun q => decide (q.id = r.id)) = true := List.any_eq_true.2 ⟨q, List.mem_of_getElem? hq, hd⟩
        rw [if_pos this]
        refine wE_seq ?_; refine y4 ?_; refine yM ?_; refine yM ?_; refine yD ?_; refine yt ?_; refine y3 ?_
        refine yY ?_; refine wE_skip ?_; refine kS_n ?_; refine wE_seq ?_; refine wE_block ?_; refine wE_seq ?_; refine wE_seq ?_; refine wE_draw ?_; refine qM ?_; refine qM ?_
        refine wD_quiet rfl rfl rfl (by exact rfl) (by exact rfl) (by exact rfl) (a_iaddrS (by exact rfl) (by exact rfl) (by omega)) ?_; refine qF ?_; refine wD_quiet rfl rfl rfl (by exact rfl) (by exact rfl) (by exact rfl) (a_load (by exact rfl) (by assumption) (by assumption)) ?_
        refine qF ?_; refine qL ?_; refine wD_quiet rfl rfl rfl (by exact rfl) (by exact rfl) (by exact rfl) (a_num (by exact rfl) (by exact rfl) (by with_reducible assumption)) ?_; refine wD_nil ?_
        refine y1 ?_; refine kS_n ?_; refine yY ?_; refine y4 ?_; refine yM ?_; refine y3 ?_; refine wE_ret ?_; refine kS_r ?_
        refine kB_r ?_; refine kS_r ?_; refine kS_r ?_; refine kB_r ?_; refine kS_r ?_
        exact endP_ret hL rfl rfl
      | false =>
        rw [hd] at m1 hA
        refine wE_seq ?_; refine y4 ?_; refine yM ?_; refine yM ?_; refine yD ?_; refine yt ?_; refine y3 ?_
        refine yY ?_; refine wE_skip ?_; refine kS_n ?_; refine wE_seq ?_; refine wE_block ?_; refine wE_seq ?_; refine wE_seq ?_; refine wE_draw ?_; refine qM ?_; refine qM ?_
        refine wD_quiet rfl rfl rfl (by exact rfl) (by exact rfl) (by exact rfl) (a_iaddrS (by exact rfl) (by exact rfl) (by omega)) ?_; refine qF ?_; refine wD_quiet rfl rfl rfl (by exact rfl) (by exact rfl) (by exact rfl) (a_load (by exact rfl) (by assumption) (by assumption)) ?_
        refine qF ?_; refine qL ?_; refine wD_quiet rfl rfl rfl (by exact rfl) (by exact rfl) (by exact rfl) (a_num (by exact rfl) (by exact rfl) (by with_reducible assumption)) ?_; refine wD_nil ?_
        refine y1 ?_; refine kS_n ?_; refine yX ?_; refine wE_skip ?_; refine kS_n ?_
        refine wE_cutE (E := [(0, .slice (some ⟨b, o, none⟩) l.length c), (3, .pointer (some ⟨h.next, 0, none⟩)), (5, .bool (nm || (d4 && d2))), (6, .bool vd), (7, .int .i64 (i : Nat))]) (H := H) ?_ ?_
        · cases nm with
          | true =>
            refine wE_draw ?_; refine qM ?_; refine qM ?_; refine wD_off rfl rfl rfl (by exact rfl) ?_; refine wD_off rfl rfl rfl (by exact rfl) ?_; refine wD_off rfl rfl rfl (by exact rfl) ?_; refine wD_off rfl rfl rfl (by exact rfl) ?_
            refine wD_off rfl rfl rfl (by exact rfl) ?_; refine wD_off rfl rfl rfl (by exact rfl) ?_; refine wD_off rfl rfl rfl (by exact rfl) ?_; refine wD_off rfl rfl rfl (by exact rfl) ?_; refine wD_off rfl rfl rfl (by exact rfl) ?_; refine wD_off rfl rfl rfl (by exact rfl) ?_; refine wD_off rfl rfl rfl (by exact rfl) ?_; refine wD_off rfl rfl rfl (by exact rfl) ?_
            refine wD_off rfl rfl rfl (by exact rfl) ?_; refine wD_off rfl rfl rfl (by exact rfl) ?_; refine wD_off rfl rfl rfl (by exact rfl) ?_; refine wD_off rfl rfl rfl (by exact rfl) ?_; refine wD_quiet rfl rfl rfl (by exact rfl) (by exact rfl) (by exact rfl) (a_pickT (by exact rfl) (by exact rfl)) ?_; refine qM ?_
            refine wD_nil ?_; refine y1 ?_
            exact ⟨rfl, rfl, rfl, rfl⟩
          | false =>
            cases d4 with
            | true =>
              refine wE_draw ?_; refine qM ?_; refine qM ?_; refine qM ?_
              refine qM ?_; refine wD_quiet rfl rfl rfl (by exact rfl) (by exact rfl) (by exact rfl) (a_iaddrS (by exact rfl) (by exact rfl) (by omega)) ?_; refine qF ?_
              refine wD_quiet rfl rfl rfl (by exact rfl) (by exact rfl) (by exact rfl) (a_load (by exact rfl) (by assumption) (by assumption)) ?_; refine wD_quiet rfl rfl rfl (by exact rfl) (by exact rfl) (by exact rfl) (a_num (by exact rfl) (by exact rfl) (by with_reducible assumption)) ?_; refine qM ?_
              refine qM ?_; refine qM ?_; refine wD_quiet rfl rfl rfl (by exact rfl) (by exact rfl) (by exact rfl) (a_iaddrS (by exact rfl) (by exact rfl) (by omega)) ?_
              refine qF ?_; refine wD_quiet rfl rfl rfl (by exact rfl) (by exact rfl) (by exact rfl) (a_load (by exact rfl) (by assumption) (by assumption)) ?_; refine qF ?_
              refine wD_quiet rfl rfl rfl (by exact rfl) (by exact rfl) (by exact rfl) (a_load (by exact rfl) (by assumption) (by assumption)) ?_; refine wD_quiet rfl rfl rfl (by exact rfl) (by exact rfl) (by exact rfl) (a_num (by exact rfl) (by exact rfl) (by with_reducible assumption)) ?_; refine wD_quiet rfl rfl rfl (by exact rfl) (by exact rfl) (by exact rfl) (a_pickT (by exact rfl) (by exact rfl)) ?_
              refine wD_quiet rfl rfl rfl (by exact rfl) (by exact rfl) (by exact rfl) (a_pickF (by exact rfl) (by exact rfl)) ?_; refine qM ?_; refine wD_nil ?_; refine y1 ?_
              exact ⟨rfl, rfl, rfl, rfl⟩
            | false =>
              refine wE_draw ?_; refine qM ?_; refine qM ?_; refine qM ?_
              refine qM ?_; refine wD_quiet rfl rfl rfl (by exact rfl) (by exact rfl) (by exact rfl) (a_iaddrS (by exact rfl) (by exact rfl) (by omega)) ?_; refine qF ?_
              refine wD_quiet rfl rfl rfl (by exact rfl) (by exact rfl) (by exact rfl) (a_load (by exact rfl) (by assumption) (by assumption)) ?_; refine wD_quiet rfl rfl rfl (by exact rfl) (by exact rfl) (by exact rfl) (a_num (by exact rfl) (by exact rfl) (by with_reducible assumption)) ?_; refine qM ?_
              refine wD_off rfl rfl rfl (by exact rfl) ?_; refine wD_off rfl rfl rfl (by exact rfl) ?_; refine wD_off rfl rfl rfl (by exact rfl) ?_; refine wD_off rfl rfl rfl (by exact rfl) ?_; refine wD_off rfl rfl rfl (by exact rfl) ?_; refine wD_off rfl rfl rfl (by exact rfl) ?_; refine wD_off rfl rfl rfl (by exact rfl) ?_; refine wD_off rfl rfl rfl (by exact rfl) ?_
              refine wD_quiet rfl rfl rfl (by exact rfl) (by exact rfl) (by exact rfl) (a_pickF (by exact rfl) (by exact rfl)) ?_; refine wD_quiet rfl rfl rfl (by exact rfl) (by exact rfl) (by exact rfl) (a_pickF (by exact rfl) (by exact rfl)) ?_; refine qM ?_; refine wD_nil ?_
              refine y1 ?_
              exact ⟨rfl, rfl, rfl, rfl⟩
        cases vd with
        | true =>
          refine wE_draw ?_; refine qM ?_; refine qM ?_; refine wD_off rfl rfl rfl (by exact rfl) ?_; refine wD_off rfl rfl rfl (by exact rfl) ?_; refine wD_off rfl rfl rfl (by exact rfl) ?_; refine wD_off rfl rfl rfl (by exact rfl) ?_
          refine wD_off rfl rfl rfl (by exact rfl) ?_; refine wD_off rfl rfl rfl (by exact rfl) ?_; refine wD_off rfl rfl rfl (by exact rfl) ?_; refine wD_off rfl rfl rfl (by exact rfl) ?_; refine wD_off rfl rfl rfl (by exact rfl) ?_; refine wD_off rfl rfl rfl (by exact rfl) ?_; refine wD_off rfl rfl rfl (by exact rfl) ?_; refine wD_off rfl rfl rfl (by exact rfl) ?_
          refine wD_off rfl rfl rfl (by exact rfl) ?_; refine wD_off rfl rfl rfl (by exact rfl) ?_; refine wD_off rfl rfl rfl (by exact rfl) ?_; refine wD_off rfl rfl rfl (by exact rfl) ?_; refine wD_quiet rfl rfl rfl (by exact rfl) (by exact rfl) (by exact rfl) (a_pickT (by exact rfl) (by exact rfl)) ?_; refine qM ?_
          refine wD_nil ?_; refine y1 ?_; refine kB_n ?_; refine kS_n ?_; refine wE_region ?_; refine yM ?_; refine yinc ?_; refine yM ?_; refine y3 ?_
          exact ⟨l.length - (i + 1), by omega, i + 1, by omega, rfl, by rw [hN, hV]; rfl, rfl, rfl, hA⟩
        | false =>
          cases d5 with
          | true =>
            refine wE_draw ?_; refine qM ?_; refine qM ?_; refine qM ?_
            refine qM ?_; refine wD_quiet rfl rfl rfl (by exact rfl) (by exact rfl) (by exact rfl) (a_iaddrS (by exact rfl) (by exact rfl) (by omega)) ?_; refine qF ?_
            refine wD_quiet rfl rfl rfl (by exact rfl) (by exact rfl) (by exact rfl) (a_load (by exact rfl) (by assumption) (by assumption)) ?_; refine wD_quiet rfl rfl rfl (by exact rfl) (by exact rfl) (by exact rfl) (a_num (by exact rfl) (by exact rfl) (by with_reducible assumption)) ?_; refine qM ?_
            refine qM ?_; refine qM ?_; refine wD_quiet rfl rfl rfl (by exact rfl) (by exact rfl) (by exact rfl) (a_iaddrS (by exact rfl) (by exact rfl) (by omega)) ?_
            refine qF ?_; refine wD_quiet rfl rfl rfl (by exact rfl) (by exact rfl) (by exact rfl) (a_load (by exact rfl) (by assumption) (by assumption)) ?_; refine qF ?_
            refine wD_quiet rfl rfl rfl (by exact rfl) (by exact rfl) (by exact rfl) (a_load (by exact rfl) (by assumption) (by assumption)) ?_; refine wD_quiet rfl rfl rfl (by exact rfl) (by exact rfl) (by exact rfl) (a_num (by exact rfl) (by exact rfl) (by with_reducible assumption)) ?_; refine wD_quiet rfl rfl rfl (by exact rfl) (by exact rfl) (by exact rfl) (a_pickT (by exact rfl) (by exact rfl)) ?_
            refine wD_quiet rfl rfl rfl (by exact rfl) (by exact rfl) (by exact rfl) (a_pickF (by exact rfl) (by exact rfl)) ?_; refine qM ?_; refine wD_nil ?_; refine y1 ?_; refine kB_n ?_; refine kS_n ?_; refine wE_region ?_
            refine yM ?_; refine yinc ?_; refine yM ?_; refine y3 ?_
            exact ⟨l.length - (i + 1), by omega, i + 1, by omega, rfl, by rw [hN, hV]; rfl, rfl, rfl, hA⟩
          | false =>
            refine wE_draw ?_; refine qM ?_; refine qM ?_; refine qM ?_
            refine qM ?_; refine wD_quiet rfl rfl rfl (by exact rfl) (by exact rfl) (by exact rfl) (a_iaddrS (by exact rfl) (by exact rfl) (by omega)) ?_; refine qF ?_
            refine wD_quiet rfl rfl rfl (by exact rfl) (by exact rfl) (by exact rfl) (a_load (by exact rfl) (by assumption) (by assumption)) ?_; refine wD_quiet rfl rfl rfl (by exact rfl) (by exact rfl) (by exact rfl) (a_num (by exact rfl) (by exact rfl) (by with_reducible assumption)) ?_; refine qM ?_
            refine wD_off rfl rfl rfl (by exact rfl) ?_; refine wD_off rfl rfl rfl (by exact rfl) ?_; refine wD_off rfl rfl rfl (by exact rfl) ?_; refine wD_off rfl rfl rfl (by exact rfl) ?_; refine wD_off rfl rfl rfl (by exact rfl) ?_; refine wD_off rfl rfl rfl (by exact rfl) ?_; refine wD_off rfl rfl rfl (by exact rfl) ?_; refine wD_off rfl rfl rfl (by exact rfl) ?_
            refine wD_quiet rfl rfl rfl (by exact rfl) (by exact rfl) (by exact rfl) (a_pickF (by exact rfl) (by exact rfl)) ?_; refine wD_quiet rfl rfl rfl (by exact rfl) (by exact rfl) (by exact rfl) (a_pickF (by exact rfl) (by exact rfl)) ?_; refine qM ?_; refine wD_nil ?_
            refine y1 ?_; refine kB_n ?_; refine kS_n ?_; refine wE_region ?_; refine yM ?_; refine yinc ?_; refine yM ?_; refine y3 ?_
            exact ⟨l.length - (i + 1), by omega, i + 1, by omega, rfl, by rw [hN, hV]; rfl, rfl, rfl, hA⟩
    · obtain rfl : i = l.length := by omega
      rw [List.take_length] at hany ⊢
      rw [if_neg (by rw [hany]; simp)]
      generalize namedR l r.of = nm
      generalize voidR l r.of = vd
      generalize hlt : lateR l r = lt
      refine wE_seq ?_; refine y4 ?_; refine yM ?_; refine yM ?_; refine yD ?_; refine yf ?_; refine y3 ?_
      refine yX ?_; refine wE_exit ?_; refine kS_e ?_; refine kS_e ?_; refine kB_e ?_; refine kS_n ?_; refine wE_seq ?_
      refine wE_cutE (E := [(3, .pointer (some ⟨h.next, 0, none⟩)), (5, .bool nm), (6, .bool vd), (80, .bool lt)]) (H := H) ?_ ?_
      · have m1 := m_gtr0 (n := l.length)
        cases hlast : l.getLast? with
        | none =>
          have hl0 : l = [] := by simpa using hlast
          have hlt2 : lt = false := by rw [← hlt]; unfold lateR; rw [hlast]
          subst hlt2
          rw [show decide (0 < l.length) = false by rw [hl0]; rfl] at m1
          refine wE_draw ?_; refine qM ?_; refine wD_quiet rfl rfl rfl (by exact rfl) (by exact rfl) (by exact rfl) (a_len1 (by exact rfl)) ?_; refine wD_quiet rfl rfl rfl (by exact rfl) (by exact rfl) (by exact rfl) (a_num (by exact rfl) (by exact rfl) (by with_reducible assumption)) ?_
          refine qM ?_; refine wD_off rfl rfl rfl (by exact rfl) ?_; refine wD_off rfl rfl rfl (by exact rfl) ?_; refine wD_off rfl rfl rfl (by exact rfl) ?_; refine wD_off rfl rfl rfl (by exact rfl) ?_; refine wD_off rfl rfl rfl (by exact rfl) ?_; refine wD_off rfl rfl rfl (by exact rfl) ?_
          refine wD_off rfl rfl rfl (by exact rfl) ?_; refine wD_off rfl rfl rfl (by exact rfl) ?_; refine wD_off rfl rfl rfl (by exact rfl) ?_; refine wD_off rfl rfl rfl (by exact rfl) ?_; refine wD_quiet rfl rfl rfl (by exact rfl) (by exact rfl) (by exact rfl) (a_pickF (by exact rfl) (by exact rfl)) ?_; refine wD_nil ?_
          refine y1 ?_
          exact ⟨rfl, rfl, rfl, rfl⟩
        | some q =>
          have hlt2 : lt = decide (r.known < q.known) := by rw [← hlt]; unfold lateR; rw [hlast]
          have hne : l ≠ [] := by intro e; rw [e] at hlast; simp at hlast
          have hpos : 0 < l.length := List.length_pos_iff.2 hne
          have hq : l[l.length - 1]? = some q := by rw [← List.getLast?_eq_getElem?]; exact hlast
          rw [decide_eq_true hpos] at m1
          obtain ⟨b, o, vs, own, t, rfl, e1, e2, hb, _⟩ := (s.ext x).elem hq
          have m2 : numOp .sub (.int .i64 (l.length : Nat)) (.int .i64 1) = some (.int .i64 ((l.length - 1 : Nat) : Int)) := m_sub (by rw [wrapA_i64] <;> omega)
          have e3 := e2.known
          have m3 : numOp .lss (.int .i64 r.known) (.int .i64 q.known) = some (.bool lt) := by rw [hlt2]; exact m_lss
          clear hlt hlt2
          refine wE_draw ?_; refine qM ?_; refine wD_quiet rfl rfl rfl (by exact rfl) (by exact rfl) (by exact rfl) (a_len1 (by exact rfl)) ?_; refine wD_quiet rfl rfl rfl (by exact rfl) (by exact rfl) (by exact rfl) (a_num (by exact rfl) (by exact rfl) (by with_reducible assumption)) ?_
          refine qM ?_; refine qF ?_; refine qL ?_
          refine qM ?_; refine qM ?_; refine wD_quiet rfl rfl rfl (by exact rfl) (by exact rfl) (by exact rfl) (a_len1 (by exact rfl)) ?_
          refine wD_quiet rfl rfl rfl (by exact rfl) (by exact rfl) (by exact rfl) (a_num (by exact rfl) (by exact rfl) (by with_reducible assumption)) ?_; refine wD_quiet rfl rfl rfl (by exact rfl) (by exact rfl) (by exact rfl) (a_iaddrS (by exact rfl) (by exact rfl) (by omega)) ?_; refine qF ?_
          refine wD_quiet rfl rfl rfl (by exact rfl) (by exact rfl) (by exact rfl) (a_load (by exact rfl) (by assumption) (by assumption)) ?_; refine wD_quiet rfl rfl rfl (by exact rfl) (by exact rfl) (by exact rfl) (a_num (by exact rfl) (by exact rfl) (by with_reducible assumption)) ?_; refine wD_quiet rfl rfl rfl (by exact rfl) (by exact rfl) (by exact rfl) (a_pickT (by exact rfl) (by exact rfl)) ?_
          refine wD_nil ?_; refine y1 ?_
          exact ⟨rfl, rfl, rfl, rfl⟩
      have m5 : numOp .eql (.int .u8 (r.kind : Nat)) (.int .u8 3) = _ := m_eqI (c := 3) rfl
      cases lt with
      | true =>
        rw [if_pos rfl]
        refine yY ?_; refine y4 ?_; refine yM ?_; refine y3 ?_; refine wE_ret ?_; refine kS_r ?_
        exact endP_ret hL rfl rfl
      | false =>
        rw [if_neg (by simp)]
        by_cases hk : r.kind = 3
        · rw [if_neg (fun q => q hk)]
          rw [decide_eq_true hk] at m5
          cases nm with
          | false =>
            rw [if_pos (show (!false) = true from rfl)]
            refine yX ?_; refine wE_skip ?_; refine kS_n ?_; refine wE_seq ?_; refine y4 ?_; refine yF ?_; refine yL ?_; refine wO_val (a_num (by exact rfl) (by exact rfl) (by with_reducible assumption)) ?_; refine yM ?_; refine yO ?_
            refine yM ?_; refine yO ?_; refine yA ?_; refine yT ?_; refine y3 ?_; refine yY ?_; refine y4 ?_
            refine yM ?_; refine y3 ?_; refine wE_ret ?_; refine kS_r ?_
            exact endP_ret hL rfl rfl
          | true =>
            rw [if_neg (by simp)]
            cases vd with
            | true =>
              rw [if_pos rfl]
              refine yX ?_; refine wE_skip ?_; refine kS_n ?_; refine wE_seq ?_; refine y4 ?_; refine yF ?_; refine yL ?_; refine wO_val (a_num (by exact rfl) (by exact rfl) (by with_reducible assumption)) ?_; refine yM ?_; refine yO ?_
              refine yM ?_; refine yO ?_; refine yA ?_; refine yT ?_; refine y3 ?_; refine yX ?_; refine wE_skip ?_; refine kS_n ?_; refine wE_seq ?_
              refine y4 ?_; refine yF ?_; refine yL ?_; refine wO_val (a_num (by exact rfl) (by exact rfl) (by with_reducible assumption)) ?_; refine yM ?_; refine yO ?_; refine yM ?_
              refine yT ?_; refine y3 ?_; refine yY ?_; refine y4 ?_; refine yM ?_; refine y3 ?_; refine wE_ret ?_; refine kS_r ?_
              exact endP_ret hL rfl rfl
            | false =>
              rw [if_neg (by simp)]
              refine yX ?_; refine wE_skip ?_; refine kS_n ?_; refine wE_seq ?_; refine y4 ?_; refine yF ?_; refine yL ?_; refine wO_val (a_num (by exact rfl) (by exact rfl) (by with_reducible assumption)) ?_; refine yM ?_; refine yO ?_
              refine yM ?_; refine yO ?_; refine yA ?_; refine yT ?_; refine y3 ?_; refine yX ?_; refine wE_skip ?_; refine kS_n ?_; refine wE_seq ?_
              refine y4 ?_; refine yF ?_; refine yL ?_; refine wO_val (a_num (by exact rfl) (by exact rfl) (by with_reducible assumption)) ?_; refine yM ?_; refine yO ?_; refine yM ?_
              refine yT ?_; refine y3 ?_; refine yX ?_; refine wE_skip ?_; refine kS_n ?_; refine y4 ?_; refine yM ?_; refine y3 ?_; refine wE_ret ?_
              exact endP_ret hL rfl rfl
        · rw [if_pos hk]
          rw [decide_eq_false hk] at m5
          refine yX ?_; refine wE_skip ?_; refine kS_n ?_; refine wE_seq ?_; refine y4 ?_; refine yF ?_; refine yL ?_; refine wO_val (a_num (by exact rfl) (by exact rfl) (by with_reducible assumption)) ?_; refine yM ?_
          refine yP ?_; refine yP ?_; refine yU ?_; refine y3 ?_; refine yX ?_; refine wE_skip ?_; refine kS_n ?_; refine wE_seq ?_; refine y4 ?_; refine yF ?_; refine yL ?_; refine wO_val (a_num (by exact rfl) (by exact rfl) (by with_reducible assumption)) ?_; refine yM ?_; refine yP ?_; refine yU ?_; refine y3 ?_; refine yX ?_; refine wE_skip ?_; refine kS_n ?_; refine y4 ?_; refine yM ?_; refine y3 ?_
          refine wE_ret ?_
          exact endP_ret hL rfl rfl
  · rw [if_pos g2]
    have hc : ckR r = 1 := by
      unfold ckR at g2 ⊢
      split at g2
      · exact (g2 rfl).elim
      · rename_i q; rw [if_neg q]
    rw [hc]
    refine yt ?_; refine y3 ?_; refine yY ?_; refine y4 ?_; refine yM ?_; refine y3 ?_; refine wE_ret ?_; refine kS_r ?_
    exact endP_ret hL rfl rfl
end Go.A.Pk
end
section
set_option maxRecDepth 100000
namespace Go.A.Pk
variable {T : Nat → Option AFunc}
def chkF (F : List Rd → Rd → Int) (l : List Rd) : Nat → Nat → Int × Int
  | 0, _ => (0, 0)
  | m + 1, i => match l[i]? with
    | none => (0, 0)
    | some r => if F (l.take i) r ≠ 0 then ((i : Nat), F (l.take i) r) else chkF F l m (i + 1)
def chkR (F : List Rd → Rd → Int) (l : List Rd) : Int × Int := chkF F l l.length 0
def ckV (p : Int × Int) : Value := .tuple #[.int .i64 p.1, .int .i64 p.2]
theorem chkF_step {F : List Rd → Rd → Int} {l : List Rd} {i : Nat} {r : Rd} (hi : l[i]? = some r) : chkF F l (l.length - i) i = if F (l.take i) r ≠ 0 then (((i : Nat) : Int), F (l.take i) r) else chkF F l (l.length - (i + 1)) (i + 1) := by
  have hlt := (List.getElem?_eq_some_iff.1 hi).1
  rw [show l.length - i = (l.length - (i + 1)) + 1 by omega, chkF, hi]
theorem RdS.take {h : Heap} {a : Option Addr} {n c : Nat} {l : List Rd} (s : RdS h (.slice a n c) l) {i : Nat} (hi : i ≤ l.length) : RdS h (.slice a i i) (l.take i) := by
  obtain rfl := s.len
  refine ⟨?_, fun r hr => s.ok r (List.mem_of_mem_take hr)⟩
  have e := s.sl.take hi
  rw [rsL_take s.ok] at e
  rw [List.length_take, Nat.min_eq_left hi]
  exact e
theorem RdS.cap {h : Heap} {a : Option Addr} {n c : Nat} {l : List Rd} (s : RdS h (.slice a n c) l) : n ≤ c := by
  rcases s.sl.inv with ⟨_, hv, h0, _⟩ | ⟨b, o, cap, hv, s1, hc⟩
  · cases hv; omega
  · cases hv; exact hc
theorem RdS.slot {h : Heap} {a : Option Addr} {n c : Nat} {l : List Rd} (s : RdS h (.slice a n c) l) : a = none ∨ ∃ b o, a = some ⟨b, o, none⟩ := by
  rcases s.sl.inv with ⟨_, hv, h0, _⟩ | ⟨b, o, cap, hv, s1, hc⟩
  · cases hv; exact .inl rfl
  · cases hv; exact .inr ⟨_, _, rfl⟩
set_option maxHeartbeats 4000000 in
theorem check41 (F : FnsRf T) (hf : T 41 = some f41) {h : Heap} (hr : Rdy h) {a : Option Addr} {n c : Nat} {l : List Rd} (s : RdS h (.slice a n c) l) (hn : n < 1000000) : Pu T 41 [.slice a n c] h (ckV (chkR refR l)) := by
  refine .of F.p hf hr rfl ?_
  obtain rfl := s.len
  have hcap := s.cap
  refine y4 ?_; refine yM ?_; refine yM ?_; refine y3 ?_; refine wE_seq ?_; refine y4 ?_; refine yM ?_; refine y3 ?_; refine wE_block ?_
  refine wE_loop (fun m e ds h' => ∃ i : Nat, i ≤ l.length ∧ m = l.length - i ∧ e = [(0, .slice a l.length c), (4, .int .i64 (i : Nat))] ∧ ds = [] ∧ h = h' ∧ chkR refR l = chkF refR l (l.length - i) i)
    ⟨0, Nat.zero_le _, rfl, rfl, rfl, rfl, rfl⟩ ?_
  rintro m e ds _ ⟨i, hin, rfl, rfl, rfl, rfl, hi⟩
  by_cases hlt : i < l.length
  · obtain ⟨r, hri⟩ : ∃ r, l[i]? = some r := ⟨l[i], List.getElem?_eq_getElem hlt⟩
    have hR := s.ok r (List.mem_of_getElem? hri)
    have C := refused130 F hr (s.take hin) (show i < 1000000 by omega) hR
    have hsl := s.slot
    obtain ⟨b, o, vs, own, t, rfl, e1, e2, hb, _⟩ := s.elem hri
    have k1 := e2.all
    have k2 := rdL_llen hR
    rw [chkF_step hri] at hi
    refine wE_seq ?_; refine y4 ?_; refine yM ?_; refine yM ?_; refine yD ?_; refine yt ?_; refine y3 ?_
    refine yY ?_; refine wE_skip ?_; refine kS_n ?_; refine wE_seq ?_; refine wE_block ?_; refine wE_seq ?_; refine wE_draw ?_; refine qM ?_; refine qM ?_
    refine qM ?_; refine wD_quiet rfl rfl rfl (by exact rfl) (by exact rfl) (by exact rfl) (a_slice3 (by exact rfl) (by exact rfl) (by exact rfl) (by omega) (by omega) (by omega) (by assumption)) ?_; refine qM ?_
    refine qM ?_; refine wD_quiet rfl rfl rfl (by exact rfl) (by exact rfl) (by exact rfl) (a_iaddrS (by exact rfl) (by exact rfl) (by omega)) ?_; refine wD_quiet rfl rfl rfl (by exact rfl) (by exact rfl) (by exact rfl) (a_loadN (by exact rfl) (by assumption) (by assumption) (by assumption)) ?_
    refine qC ?_
    refine FW.puD (by rw [hr.self]; exact C) (by apply ra_dropC rfl; apply ra_dropC rfl; apply ra_dropC rfl; apply ra_dropC rfl; apply ra_dropC rfl; apply ra_dropC rfl; apply ra_dropC rfl; apply ra_dropC rfl; exact ra_nil) ?_
    clear C
    by_cases hz : refR (l.take i) r = 0
    · rw [if_neg (fun q => q hz)] at hi
      rw [hz]
      refine qM ?_; refine wD_nil ?_; refine y1 ?_; refine kS_n ?_; refine y4 ?_; refine yM ?_; refine yf ?_
      refine y3 ?_; refine yX ?_; refine wE_skip ?_; refine kB_n ?_; refine kS_n ?_; refine wE_region ?_; refine yM ?_; refine yinc ?_
      refine yM ?_; refine y3 ?_
      exact ⟨l.length - (i + 1), by omega, i + 1, by omega, rfl, rfl, rfl, rfl, hi⟩
    · rw [if_pos hz] at hi
      rw [hi]
      generalize refR (l.take i) r = z at hz
      have m1 : numOp .neq (.int .i64 z) (.int .i64 0) = some (.bool true) := m_neqT hz
      refine qM ?_; refine wD_nil ?_; refine y1 ?_; refine kS_n ?_; refine y4 ?_; refine yM ?_; refine wO_val (a_num (by exact rfl) (by exact rfl) (by with_reducible assumption)) ?_
      refine y3 ?_; refine yY ?_; refine y4 ?_; refine yM ?_; refine yM ?_; refine yM ?_; refine yM ?_; refine y3 ?_; refine wE_ret ?_; refine kB_r ?_; refine kS_r ?_; refine kS_r ?_; refine kB_r ?_; refine kS_r ?_
      exact endP_ret hr.log rfl rfl
  · obtain rfl : i = l.length := by omega
    rw [hi, Nat.sub_self]
    refine wE_seq ?_; refine y4 ?_; refine yM ?_; refine yM ?_; refine yD ?_; refine yf ?_; refine y3 ?_
    refine yX ?_; refine wE_exit ?_; refine kS_e ?_; refine kS_e ?_; refine kB_e ?_; refine kS_n ?_; refine y4 ?_; refine yM ?_; refine yM ?_; refine y3 ?_; refine wE_ret ?_
    exact endP_ret hr.log rfl rfl
set_option maxHeartbeats 4000000 in
theorem check40 (F : FnsFo T) (hf : T 40 = some f40) {h : Heap} (hr : Rdy h) {a : Option Addr} {n c : Nat} {l : List Rd} (s : RdS h (.slice a n c) l) (hn : n < 1000000) : Pu T 40 [.slice a n c] h (ckV (chkR folR l)) := by
  refine .of F.p hf hr rfl ?_
  obtain rfl := s.len
  have hcap := s.cap
  refine y4 ?_; refine yM ?_; refine yM ?_; refine y3 ?_; refine wE_seq ?_; refine y4 ?_; refine yM ?_; refine yD ?_
  refine yM ?_; refine y3 ?_; refine wE_block ?_
  refine wE_loop (fun m e ds h' => ∃ i : Nat, i ≤ l.length ∧ m = l.length - i ∧ e = [(0, .slice a l.length c), (7, .slice a l.length c), (8, .int .i64 (l.length : Nat)), (9, .int .i64 (i : Nat))] ∧ ds = [] ∧ Ext h h' ∧ chkR folR l = chkF folR l (l.length - i) i)
    ⟨0, Nat.zero_le _, rfl, rfl, rfl, .refl h, rfl⟩ ?_
  rintro m e ds H ⟨i, hin, rfl, rfl, rfl, x, hi⟩
  have W := x.wf hr.wf
  have hL := x.log.trans hr.log
  have hnx := x.next
  by_cases hlt : i < l.length
  · obtain ⟨r, hri⟩ : ∃ r, l[i]? = some r := ⟨l[i], List.getElem?_eq_getElem hlt⟩
    have hR := s.ok r (List.mem_of_getElem? hri)
    have x2 : Ext h ((H.push (.cells zR true 1)).wr h.next H.next (.cells (rdL r) true 1)) := ⟨by show h.next ≤ H.next + 1; omega, (Heap.log_wr_new hnx).trans x.log, fun b hb => by
      rw [z5 (by omega), z4 (by omega)]; exact x.old b hb, fun w => ((x.wf w).push _).as (AS.wr h.next _ _ _)⟩
    have C := follows129 F (.of (x2.wf hr.wf)) (((s.take hin).ext x2).log []) (show i < 1000000 by omega) hR
    have gn2 : (((H.push (.cells zR true 1)).wr h.next H.next (.cells (rdL r) true 1))).get H.next = some (.cells (rdL r) true 1) := by
      rw [z6, z3]; rfl
    have hsl := s.slot
    obtain ⟨b, o, vs, own, t, rfl, e1, e2, hb, _⟩ := (s.ext x).elem hri
    have k1 := e2.all
    have k2 := rdL_llen hR
    have rl2 := rdL_length hR
    have ro := rdL_ones r
    have ral := rdL_all hR
    rw [chkF_step hri] at hi
    refine y4 ?_; refine yt ?_; refine y3 ?_; refine wE_seq ?_; refine yY ?_; refine wE_skip ?_; refine kS_n ?_; refine wE_seq ?_; refine wE_block ?_; refine y4 ?_; refine yM ?_; refine wO_val (a_iaddrS (by exact rfl) (by exact rfl) (by omega)) ?_; refine wO_val (a_loadN (by exact rfl) (by assumption) (by assumption) (by assumption)) ?_; refine wO_val (a_new) ?_; refine yM ?_
    refine wO_val (a_storeAll (by exact rfl) (by exact rfl) (by (simp (disch := first | omega | (simp only [z1, z2]; omega)) only [z3, z4, z5, z6, z7, z1, z2, gn2, e1]; exact rfl)) (by assumption) (by exact rfl) (by assumption)) ?_; refine y3 ?_
    unfold zR at *
    generalize (((H.push (.cells _ true 1)).wr h.next H.next (.cells (rdL r) true 1))) = H2 at *
    have hL2 := x2.log.trans hr.log
    refine wE_seq ?_; refine wE_draw ?_; refine qM ?_; refine qM ?_; refine qM ?_
    refine wD_quiet rfl rfl rfl (by exact rfl) (by exact rfl) (by exact rfl) (a_slice3 (by exact rfl) (by exact rfl) (by exact rfl) (by omega) (by omega) (by omega) (by assumption)) ?_; refine wD_quiet rfl rfl rfl (by exact rfl) (by exact rfl) (by exact rfl) (a_loadN (by exact rfl) (by assumption) (by assumption) (by assumption)) ?_
    refine qC ?_
    refine FW.puD C (by apply ra_dropC rfl; apply ra_dropC rfl; apply ra_dropC rfl; apply ra_dropC rfl; apply ra_dropC rfl; exact ra_nil) ?_
    clear C
    by_cases hz : folR (l.take i) r = 0
    · rw [if_neg (fun q => q hz)] at hi
      rw [hz]
      refine qM ?_; refine wD_nil ?_; refine y1 ?_; refine kS_n ?_; refine y4 ?_; refine yM ?_; refine yf ?_
      refine y3 ?_; refine yX ?_; refine wE_skip ?_; refine kB_n ?_; refine kS_n ?_; refine wE_region ?_; refine yinc ?_; refine yM ?_; refine y3 ?_
      exact ⟨l.length - (i + 1), by omega, i + 1, by omega, rfl, rfl, rfl, x2, hi⟩
    · rw [if_pos hz] at hi
      rw [hi]
      generalize folR (l.take i) r = z at hz
      have m1 : numOp .neq (.int .i64 z) (.int .i64 0) = some (.bool true) := m_neqT hz
      refine qM ?_; refine wD_nil ?_; refine y1 ?_; refine kS_n ?_; refine y4 ?_; refine yM ?_; refine wO_val (a_num (by exact rfl) (by exact rfl) (by with_reducible assumption)) ?_
      refine y3 ?_; refine yY ?_; refine y4 ?_; refine yM ?_; refine yM ?_; refine yM ?_; refine yM ?_; refine y3 ?_; refine wE_ret ?_; refine kB_r ?_; refine kS_r ?_; refine kS_r ?_; refine kB_r ?_; refine kS_r ?_
      exact endP_ret hL2 rfl rfl
  · obtain rfl : i = l.length := by omega
    rw [hi, Nat.sub_self]
    refine y4 ?_; refine yf ?_; refine y3 ?_; refine wE_seq ?_; refine yX ?_; refine wE_exit ?_; refine kS_e ?_; refine kS_e ?_; refine kB_e ?_; refine kS_n ?_
    refine y4 ?_; refine yM ?_; refine yM ?_; refine y3 ?_; refine wE_ret ?_
    exact endP_ret hL rfl rfl
end Go.A.Pk
end
section
set_option maxRecDepth 100000
namespace Go.A.Pk
variable {T : Nat → Option AFunc}
def DisR (l : List Rd) : Prop := l.Pairwise fun a b => a.id ≠ b.id
theorem badR_eq {r : Rd} : ∀ {l : List Rd}, DisR l → badR l r = !namedR l r.of
  | [], _ => rfl
  | q :: t, h => by
    have h2 : DisR t := (List.pairwise_cons.1 h).2
    have h1 := (List.pairwise_cons.1 h).1
    have ih := badR_eq (r := r) h2
    unfold badR namedR at ih ⊢
    rw [List.any_cons]
    by_cases hq : q.id = r.of
    · rw [List.find?_cons_of_pos (by simpa using hq)]
      by_cases hk : q.kind = 3
      · have : (t.any fun q => decide (q.kind ≠ 3) && decide (q.id = r.of)) = false := by
          rw [List.any_eq_false]
          intro x hx
          have := h1 x hx
          rw [hq] at this
          simp; intro _ e; exact this e.symm
        rw [this]; simp [hk]
      · simp [hk, hq]
    · rw [List.find?_cons_of_neg (by simpa using hq), ih]
      simp [hq]
theorem folR_eq {l : List Rd} (h : DisR l) (r : Rd) : folR l r = refR l r := by
  unfold folR refR; rw [badR_eq h]
theorem DisR.snoc {l : List Rd} {i : Nat} {r : Rd} (h : DisR (l.take i)) (hi : l[i]? = some r) (hz : refR (l.take i) r = 0) : DisR (l.take (i + 1)) := by
  obtain ⟨hlt, rfl⟩ := List.getElem?_eq_some_iff.1 hi
  rw [List.take_succ_eq_append_getElem hlt]
  refine List.pairwise_append.2 ⟨h, List.pairwise_singleton _ _, ?_⟩
  intro a ha b hb e
  rw [List.mem_singleton] at hb
  subst hb
  have : ((l.take i).any fun q => decide (q.id = l[i].id)) = true := List.any_eq_true.2 ⟨a, ha, by simpa using e⟩
  unfold refR at hz
  rw [this] at hz
  split at hz
  · omega
  · split at hz
    · omega
    · simp at hz
theorem chkF_law {l : List Rd} : ∀ m i, m = l.length - i → DisR (l.take i) → chkF folR l m i = chkF refR l m i ∧ ((chkF refR l m i).2 = 0 → DisR l)
  | 0, i, hm, hd => ⟨rfl, fun _ => by rwa [List.take_of_length_le (by omega)] at hd⟩
  | m + 1, i, hm, hd => by
    have hlt : i < l.length := by omega
    have hi : l[i]? = some l[i] := List.getElem?_eq_getElem hlt
    have e := folR_eq hd l[i]
    simp only [chkF, hi]
    rw [e]
    by_cases hz : refR (l.take i) l[i] = 0
    · rw [if_neg (fun q => q hz), if_neg (fun q => q hz)]
      exact chkF_law m (i + 1) (by omega) (hd.snoc hi hz)
    · rw [if_pos hz, if_pos hz]
      exact ⟨rfl, fun q => (hz q).elim⟩
theorem chkR_law (l : List Rd) : chkR folR l = chkR refR l := (chkF_law l.length 0 rfl List.Pairwise.nil).1
theorem chkR_dis {l : List Rd} (h : (chkR refR l).2 = 0) : DisR l := (chkF_law l.length 0 rfl List.Pairwise.nil).2 h
def appE (F : List Rd → Rd → Int) (l : List Rd) (r : Rd) : Int := if (chkR F l).2 ≠ 0 then (chkR F l).2 else F l r
theorem appE_law (l : List Rd) (r : Rd) : appE folR l r = appE refR l r := by
  unfold appE
  rw [chkR_law]
  by_cases h : (chkR refR l).2 = 0
  · rw [if_neg (fun q => q h), if_neg (fun q => q h), folR_eq (chkR_dis h)]
  · rw [if_pos h, if_pos h]
theorem rsL_snoc (l : List Rd) (r : Rd) : rsL l ++ rdL r = rsL (l ++ [r]) := by simp [rsL]
theorem rsL_ones : ∀ l : List Rd, ones (rsL l) = true
  | [] => rfl
  | r :: l => by
    rw [rsL_cons]
    exact ones_app (rdL_ones r) (rsL_ones l)
theorem fill_rd {h : Heap} {e : Env} {z : List Value} {x : Operand} {r : Rd} (hr : IsR r) (hz : z.length = 12) (hx : ev h e x = some (.agg (rdL r).toArray)) : fillA h e z [(0, 12, x)] = some (rdL r) := by
  have h12 := rdL_length hr
  have e1 : cellsOf (.agg (rdL r).toArray) = rdL r := by show (rdL r).toArray.toList = _; simp
  have e2 : lputs z 0 (rdL r) = rdL r := by rw [lputs_mid (by omega), h12, List.take_zero, List.drop_eq_nil_of_le (by omega)]; simp
  simp only [fillA, hx, e1, e2, llen_eq, h12, hz]; rfl
theorem sl_us : ∀ pl : List Nat, ∀ t : List Value, sameL t t = true → sameL (us pl ++ t) (us pl ++ t) = true
  | [], t, h => h
  | a :: pl, t, h => sl_cons (s1_int _ _) (sl_us pl t h)
theorem sv_rd (r : Rd) : sameV (.agg (rdL r).toArray) (.agg (rdL r).toArray) = true := by
  refine sv_agg ?_
  rw [List.toList_toArray]
  exact sl_cons (s1_int _ _) (sl_cons (s1_int _ _) (sl_cons (s1_int _ _) (sl_us _ _ (sl_cons (s1_int _ _) sl_nil))))
theorem wD_appCl {base : Nat} {e : Env} {h : Heap} {lo : Nat} {l : List Rd} {r : Rd} {ops : List AOper} {bf : List Nat} {rs : List Rec} {Q : Env → Heap → Prop} {i mask : Nat} {is : List Nat} {dst : Option Nat} {g : Option (Nat × Bool)} {er : Env} {x y : Operand} {v u : Value}
    (s : CloR lo l v h) (hl : ∀ r ∈ l, IsR r) (hr : IsR r) (hn : l.length < 1000000) (hlo : lo ≤ h.next) (hbase : base ≤ lo)
    (ho : lget ops i = some ⟨dst, .append 12 96 x y, g⟩) (hm : lget bf i = some mask) (he : keepE e (slotsA ⟨dst, .append 12 96 x y, g⟩) = er) (hwt : wantedA er g = some true)
    (hx : ev { h with log := [] } er x = some v) (hy : ev { h with log := [] } er y = some u) (hs : srcCells { h with log := [] } 12 u = some (rdL r, 1))
    (hK : ∀ v' h' lg, Own lo h' 12 v' (l.length + 1) (rsL (l ++ [r])) → Lx lo h h' → ∃ rs', recsAfter h' base lg mask rs = some rs' ∧ WD T base ops bf Q is rs' (dstE e dst v') h') : WD T base ops bf Q (i :: is) rs e h := by
  have h12 := rdL_length hr
  rcases s with ⟨rfl, rfl⟩ | ⟨b, h1, h2, h3, ⟨rfl, rfl⟩ | ⟨h4, rfl⟩⟩
  · refine wD_app1 (lo := lo) (n := 0) (.nil) (by omega) (by omega) (by omega) hlo hbase ho hm he hwt hx hy hs h12 (rdL_ones r) rfl ?_
    intro v' h' lg o x
    refine hK v' h' lg ?_ x
    rw [← rsL_snoc]; exact o
  · have hF : Own lo (h.push (.cells (rdL r) true 12)) 12 (.slice (some ⟨h.next, 0, none⟩) 1 UNK) 1 (rdL r) := .full hlo (Nat.lt_succ_self _) (z3 _ _) (by omega) (by omega)
    obtain ⟨rs', q1, q2⟩ := hK _ _ [] (by rw [← rsL_snoc]; exact hF) ((Lx.refl lo h).push hlo _)
    exact wD_actH ho hm he hwt rfl (a_app_full (h := { h with log := [] }) (len := 0) (c := 0) (n := 1) (ws := rdL r) hx hy hs (by omega) (by omega) (by decide) h3 (by exact Nat.le_refl _) (by omega) rfl) (eq_push _) (lg_push _) q1 q2
  · refine wD_app1 (lo := lo) (n := l.length) (.full h1 h2 h3 (rsL_length hl) (fun q => h4 (List.length_eq_zero_iff.1 q))) hn (by omega) (by omega) hlo hbase ho hm he hwt hx hy hs h12 (rdL_ones r) (rsL_ones l) ?_
    intro v' h' lg o x
    refine hK v' h' lg ?_ x
    rw [← rsL_snoc]; exact o
theorem wD_appE {base : Nat} {e : Env} {h : Heap} {lo b : Nat} {l : List Rd} {ops : List AOper} {bf : List Nat} {rs : List Rec} {Q : Env → Heap → Prop} {i mask : Nat} {is : List Nat} {dst : Option Nat} {g : Option (Nat × Bool)} {er : Env} {x y : Operand} {u : Value}
    (hb : h.get b = some (.cells [] true 12)) (hbn : b < h.next) (hlo : lo ≤ b) (s : RdS h u l) (hn : l.length < 1000000)
    (ho : lget ops i = some ⟨dst, .append 12 96 x y, g⟩) (hm : lget bf i = some mask) (he : keepE e (slotsA ⟨dst, .append 12 96 x y, g⟩) = er) (hwt : wantedA er g = some true)
    (hx : ev { h with log := [] } er x = some (.slice (some ⟨b, 0, none⟩) 0 0)) (hy : ev { h with log := [] } er y = some u)
    (hK : ∀ v' h', CloR lo l v' h' → Ext h h' → ∃ rs', recsAfter h' base [] mask rs = some rs' ∧ WD T base ops bf Q is rs' (dstE e dst v') h') : WD T base ops bf Q (i :: is) rs e h := by
  have hs := src_log (l := []) (src_of s.sl)
  by_cases h0 : l.length = 0
  · have hl : l = [] := List.length_eq_zero_iff.1 h0
    subst hl
    obtain ⟨rs', q1, q2⟩ := hK _ _ (.inr ⟨b, hlo, hbn, hb, .inl ⟨rfl, rfl⟩⟩) (.refl h)
    exact wD_app_zero ho hm he hwt hx hy hs (Nat.le_refl _) q1 q2
  · have e1 : lcat (ltake (0 * 12) (ldrop 0 [])) (rsL l) = rsL l := rfl
    obtain ⟨rs', q1, q2⟩ := hK (.slice (some ⟨h.next, 0, none⟩) (0 + l.length) UNK) _ (.inr ⟨h.next, by omega, Nat.lt_succ_self _, z3 h _, .inr ⟨fun q => h0 (by rw [q]; rfl), by rw [Nat.zero_add]⟩⟩) ((Ext.refl h).push _)
    exact wD_actH ho hm he hwt rfl (a_app_full (h := { h with log := [] }) (len := 0) (c := 0) (n := l.length) (ws := rsL l) hx hy hs h0 (by omega) (by decide) hb (by exact Nat.le_refl _) (by omega) e1) (eq_push _) (lg_push _) q1 q2
def AppR (e : Int) (l : List Rd) (v : Value) (h : Heap) : Prop := ∃ x, v = .tuple #[x, .int .i64 e] ∧ RdS h x (if e = 0 then l else [])
theorem AppR.flat {e : Int} {l : List Rd} {v : Value} {h h' : Heap} (hv : noRef v = true) (q : AppR e l v h) : AppR e l v h' := by
  obtain ⟨x, rfl, s⟩ := q
  refine ⟨x, rfl, ?_, s.ok⟩
  rcases s.sl.inv with ⟨c', rfl, h0, e1⟩ | ⟨b, o, cap', rfl, s1, hc⟩
  · rw [h0, e1]; exact .nil
  · simp [noRef, flatL, scalL] at hv
    cases hv.1
set_option maxHeartbeats 4000000 in
theorem append42 (F : FnsFo T) (h40 : T 40 = some f40) (h131 : T 131 = some f131) (hf : T 42 = some f42) {h : Heap} (hr : Rdy h) {a : Option Addr} {n c : Nat} {l : List Rd} (s : RdS h (.slice a n c) l) (hn : n < 1000000) {r : Rd} (hR : IsR r) :
    Al T 42 [.slice a n c, rdV r] h (AppR (appE folR l r) (l ++ [r])) := by
  refine .of F.p hf hr (fun v h1 hv q => AppR.flat hv q) ?_
  obtain rfl := s.len
  have k12 := rdL_all hR
  have l12 := rdL_llen hR
  have hrb : (h.push (.cells (cellsOf (rdV r)) true 1)).get h.next = some (.cells (rdL r) true 1) := z3 h _
  have W : WF (h.push (.cells (cellsOf (rdV r)) true 1)) := hr.wf.push _
  have x : Ext h (h.push (.cells (cellsOf (rdV r)) true 1)) := (Ext.refl h).push _
  have hnx : h.next < (h.push (.cells (cellsOf (rdV r)) true 1)).next := Nat.lt_succ_self _
  have C1 := check40 F h40 (.of W) ((s.ext x).log []) hn
  have C2 := follows129 F (.of W) ((s.ext x).log []) hn hR
  unfold appE
  refine y4 ?_; refine yB ?_; refine yM ?_; refine yM ?_; refine y3 ?_; refine wE_seq ?_
  generalize (h.push (.cells (cellsOf (rdV r)) true 1)) = H at *
  have hL : H.log = [] := x.log.trans hr.log
  have nilA : ∀ e : Int, e ≠ 0 → AppR e (l ++ [r]) (.tuple #[.slice none 0 0, .int .i64 e]) H := fun e he => ⟨_, rfl, by rw [if_neg he]; exact ⟨.nil, fun r hr => by cases hr⟩⟩
  refine y4 ?_; refine yM ?_
  refine yC ?_
  refine FW.pu C1 ?_
  clear C1
  rcases chkR folR l with ⟨p1, p2⟩
  unfold ckV
  by_cases hp : p2 = 0
  · subst hp
    rw [if_neg (fun q => q rfl)]
    refine yM ?_; refine yE ?_; refine yE ?_; refine yM ?_; refine yM ?_; refine y3 ?_; refine y4 ?_; refine yM ?_; refine yf ?_; refine y3 ?_; refine yX ?_; refine wE_skip ?_; refine kS_n ?_; refine wE_seq ?_; refine y4 ?_; refine yM ?_; refine wO_val (a_loadN (by exact rfl) (by assumption) (by assumption) (by assumption)) ?_
    refine yC ?_
    refine FW.pu C2 ?_
    clear C2
    by_cases hq : folR l r = 0
    · rw [hq]
      refine yM ?_; refine y3 ?_; refine y4 ?_; refine yM ?_; refine yf ?_; refine y3 ?_; refine yX ?_; refine wE_skip ?_; refine kS_n ?_; refine wE_seq ?_; refine wE_draw ?_; refine qM ?_
      refine wD_quiet rfl rfl rfl (by exact rfl) (by exact rfl) (by exact rfl) (a_loadN (by exact rfl) (by assumption) (by assumption) (by assumption)) ?_
      refine wD_new rfl rfl rfl (by exact rfl) (by exact rfl) (by exact rfl) (a_bslice (fill_rd (by assumption) rfl (by exact rfl)) rfl) (by refine rs_cons (rq_quiet rfl (a_loadN (by exact rfl) (by (simp (disch := first | omega | (simp only [z1, z2]; omega)) only [z3, z4, z5, z6, z7, z1, z2, hrb]; exact rfl)) (by assumption) (by assumption)) (by exact sv_rd _)) ?_; refine rs_cons (rq_quiet rfl (a_mov (by exact rfl)) (by exact sv_slice _ _ _)) ?_; exact rs_nil) ?_
      have x1 : Ext h (H.push (.cells (rdL r) true 12)) := x.trans ((Ext.refl H).push _)
      refine qC ?_
      refine FW.alD (clone131 F.p h131 (.of (x1.wf hr.wf)) ((s.ext x1).log []) hn) (fun v h' m q => q.log m) ?_
      rintro v H2 x2 q
      have g1 := (x2.old _ (show h.next < H.next + 1 by omega)).trans ((z4 hnx).trans hrb)
      have g2 : H2.get H.next = some (.cells (rdL r) true 12) := (x2.old _ (Nat.lt_succ_self _)).trans (z3 H _)
      have n2 : H.next + 1 ≤ H2.next := x2.next
      refine ⟨_, by apply ra_keepC rfl (rq_made rfl) (by rfl); apply ra_keepC rfl (rq_quiet rfl (a_loadN (by exact rfl) (by assumption) (by assumption) (by assumption)) (by exact sv_rd _)) rfl; apply ra_dropC rfl; exact ra_nil, ?_⟩
      skip
      have hL2 : H2.log = [] := x2.log.trans hL
      refine wD_appCl (lo := H.next + 1) (r := r) q s.ok hR hn (by omega) (by omega) rfl rfl rfl (by exact rfl) (by exact rfl) (by exact rfl) (src_log (src_slice (cs := rdL r) g2 k12 (rdL_length hR))) ?_
      intro v' h3 lg o3 x3
      have g3 := (x3.old _ (show h.next < H.next + 1 by omega)).trans g1
      have g4 := (x3.old _ (Nat.lt_succ_self _)).trans g2
      have n3 := x3.next
      refine ⟨_, by apply ra_dropC rfl; apply ra_dropC rfl; exact ra_nil, ?_⟩
      refine qM ?_; refine qM ?_; refine wD_nil ?_; refine y1 ?_; refine kS_n ?_; refine wE_ret ?_
      refine endA_ret (x3.log.trans hL2) rfl ⟨v', rfl, ?_⟩
      rw [if_pos rfl]
      refine ⟨?_, fun z hz => ?_⟩
      · rw [show (l ++ [r]).length = l.length + 1 by simp]
        exact o3.slice (by omega)
      · rcases List.mem_append.1 hz with q | q
        · exact s.ok z q
        · rw [List.mem_singleton.1 q]; exact hR
    · generalize folR l r = z at hq
      have m1 : numOp .neq (.int .i64 z) (.int .i64 0) = some (.bool true) := m_neqT hq
      refine yM ?_; refine y3 ?_; refine y4 ?_; refine yM ?_; refine wO_val (a_num (by exact rfl) (by exact rfl) (by with_reducible assumption)) ?_; refine y3 ?_; refine yY ?_; refine y4 ?_; refine yM ?_; refine yM ?_; refine yM ?_; refine y3 ?_; refine wE_ret ?_; refine kS_r ?_
      exact endA_ret hL rfl (nilA z hq)
  · rw [if_pos hp]
    have m1 : numOp .neq (.int .i64 p2) (.int .i64 0) = some (.bool true) := m_neqT hp
    refine yM ?_; refine yE ?_; refine yE ?_; refine yM ?_; refine yM ?_; refine y3 ?_; refine y4 ?_; refine yM ?_; refine wO_val (a_num (by exact rfl) (by exact rfl) (by with_reducible assumption)) ?_; refine y3 ?_; refine yY ?_; refine y4 ?_; refine yM ?_
    refine yM ?_; refine yM ?_; refine y3 ?_; refine wE_ret ?_; refine kS_r ?_
    exact endA_ret hL rfl (nilA p2 hp)
set_option maxHeartbeats 4000000 in
theorem append43 (F : FnsRf T) (h41 : T 41 = some f41) (hf : T 43 = some f43) {h : Heap} (hr : Rdy h) {a : Option Addr} {n c : Nat} {l : List Rd} (s : RdS h (.slice a n c) l) (hn : n < 1000000) {r : Rd} (hR : IsR r) :
    Al T 43 [.slice a n c, rdV r] h (AppR (appE refR l r) (l ++ [r])) := by
  refine .of F.p hf hr (fun v h1 hv q => AppR.flat hv q) ?_
  obtain rfl := s.len
  have k12 := rdL_all hR
  have l12 := rdL_llen hR
  have hrb : (h.push (.cells (cellsOf (rdV r)) true 1)).get h.next = some (.cells (rdL r) true 1) := z3 h _
  have W : WF (h.push (.cells (cellsOf (rdV r)) true 1)) := hr.wf.push _
  have x : Ext h (h.push (.cells (cellsOf (rdV r)) true 1)) := (Ext.refl h).push _
  have hnx : h.next < (h.push (.cells (cellsOf (rdV r)) true 1)).next := Nat.lt_succ_self _
  have C1 := check41 F h41 (.of W) ((s.ext x).log []) hn
  have C2 := refused130 F (.of W) ((s.ext x).log []) hn hR
  unfold appE
  refine y4 ?_; refine yB ?_; refine yM ?_; refine yM ?_; refine y3 ?_; refine y4 ?_; refine yM ?_
  generalize (h.push (.cells (cellsOf (rdV r)) true 1)) = H at *
  have hL : H.log = [] := x.log.trans hr.log
  have nilA : ∀ e : Int, e ≠ 0 → AppR e (l ++ [r]) (.tuple #[.slice none 0 0, .int .i64 e]) H := fun e he => ⟨_, rfl, by rw [if_neg he]; exact ⟨.nil, fun r hr => by cases hr⟩⟩
  skip
  refine yC ?_
  refine FW.pu C1 ?_
  clear C1
  rcases chkR refR l with ⟨p1, p2⟩
  unfold ckV
  by_cases hp : p2 = 0
  · subst hp
    rw [if_neg (fun q => q rfl)]
    refine yM ?_; refine yE ?_; refine yE ?_; refine yM ?_; refine yM ?_; refine y3 ?_; refine wE_seq ?_
    refine y4 ?_; refine yM ?_; refine yt ?_; refine y3 ?_; refine yY ?_; refine wE_region ?_; refine yM ?_
    refine wO_val (a_loadN (by exact rfl) (by assumption) (by assumption) (by assumption)) ?_
    refine yC ?_
    refine FW.pu C2 ?_
    clear C2
    by_cases hq : refR l r = 0
    · rw [hq]
      refine yM ?_; refine y3 ?_; refine wE_seq ?_; refine y4 ?_; refine yM ?_; refine yf ?_; refine y3 ?_; refine yX ?_; refine wE_skip ?_; refine kS_n ?_; refine wE_seq ?_; refine wE_draw ?_; refine wD_new rfl rfl rfl (by exact rfl) (by exact rfl) (by exact rfl) (a_bslice (by exact rfl) (by exact rfl)) (by exact rs_nil) ?_
      refine qM ?_
      refine wD_quiet rfl rfl rfl (by exact rfl) (by exact rfl) (by exact rfl) (a_loadN (by exact rfl) (by (simp (disch := first | omega | (simp only [z1, z2]; omega)) only [z3, z4, z5, z6, z7, z1, z2, hrb]; exact rfl)) (by assumption) (by assumption)) ?_
      refine wD_new rfl rfl rfl (by exact rfl) (by exact rfl) (by exact rfl) (a_bslice (fill_rd (by assumption) rfl (by exact rfl)) rfl) (by refine rs_cons (rq_quiet rfl (a_loadN (by exact rfl) (by (simp (disch := first | omega | (simp only [z1, z2]; omega)) only [z3, z4, z5, z6, z7, z1, z2, hrb]; exact rfl)) (by assumption) (by assumption)) (by exact sv_rd _)) ?_; refine rs_cons (rq_quiet rfl (a_mov (by exact rfl)) (by exact sv_slice _ _ _)) ?_; refine rs_cons (rq_made rfl) ?_; exact rs_nil) ?_
      have x1 : Ext h ((H.push (.cells [] true 12)).push (.cells (rdL r) true 12)) := x.trans (((Ext.refl H).push _).push _)
      refine wD_appE (lo := H.next) (b := H.next) (l := l) (by (simp (disch := first | omega | (simp only [z1, z2]; omega)) only [z3, z4, z5, z6, z7, z1, z2, hrb]; exact rfl)) (by (simp only [z1, z2]; omega)) (Nat.le_refl _) (s.ext x1) hn rfl rfl rfl (by exact rfl) (by exact rfl) (by exact rfl) ?_
      intro v H2 q x2
      have g1 := (x2.old _ (show h.next < H.next + 1 + 1 by omega)).trans ((z4 (show h.next < H.next + 1 by omega)).trans ((z4 hnx).trans hrb))
      have g2 : H2.get (H.next + 1) = some (.cells (rdL r) true 12) := (x2.old _ (Nat.lt_succ_self _)).trans (z3 _ _)
      have g0 := (x2.old _ (show H.next < H.next + 1 + 1 by omega)).trans ((z4 (Nat.lt_succ_self _)).trans (z3 H (.cells [] true 12)))
      have n2 : H.next + 1 + 1 ≤ H2.next := x2.next
      refine ⟨_, by apply ra_keepC rfl (rq_made rfl) (by rfl); apply ra_keepC rfl (rq_quiet rfl (a_loadN (by exact rfl) (by assumption) (by assumption) (by assumption)) (by exact sv_rd _)) rfl; apply ra_dropC rfl; apply ra_dropC rfl; exact ra_nil, ?_⟩
      skip
      have hL2 : H2.log = [] := x2.log.trans hL
      refine wD_appCl (lo := H.next) (r := r) q s.ok hR hn (by omega) (by omega) rfl rfl rfl (by exact rfl) (by exact rfl) (by exact rfl) (src_log (src_slice (cs := rdL r) g2 k12 (rdL_length hR))) ?_
      intro v' h3 lg o3 x3
      have g3 := (x3.old _ (show h.next < H.next by omega)).trans g1
      have n3 := x3.next
      refine ⟨_, by apply ra_dropC rfl; apply ra_dropC rfl; exact ra_nil, ?_⟩
      refine qM ?_; refine qM ?_; refine wD_nil ?_; refine y1 ?_; refine kS_n ?_; refine wE_ret ?_
      refine endA_ret (x3.log.trans hL2) rfl ⟨v', rfl, ?_⟩
      rw [if_pos rfl]
      refine ⟨?_, fun z hz => ?_⟩
      · rw [show (l ++ [r]).length = l.length + 1 by simp]
        exact o3.slice (by omega)
      · rcases List.mem_append.1 hz with q | q
        · exact s.ok z q
        · rw [List.mem_singleton.1 q]; exact hR
    · generalize refR l r = z at hq
      have m1 : numOp .neq (.int .i64 z) (.int .i64 0) = some (.bool true) := m_neqT hq
      refine yM ?_; refine y3 ?_; refine wE_seq ?_; refine y4 ?_; refine yM ?_; refine wO_val (a_num (by exact rfl) (by exact rfl) (by with_reducible assumption)) ?_; refine y3 ?_; refine yY ?_; refine y4 ?_; refine yM ?_; refine yM ?_; refine yM ?_; refine y3 ?_; refine wE_ret ?_; refine kS_r ?_
      exact endA_ret hL rfl (nilA z hq)
  · rw [if_pos hp]
    have m1 : numOp .neq (.int .i64 p2) (.int .i64 0) = some (.bool true) := m_neqT hp
    have m2 : numOp .eql (.int .i64 p2) (.int .i64 0) = some (.bool false) := m_eqlF hp
    refine yM ?_; refine yE ?_; refine yE ?_; refine yM ?_; refine yM ?_; refine y3 ?_; refine wE_seq ?_
    refine y4 ?_; refine yM ?_; refine wO_val (a_num (by exact rfl) (by exact rfl) (by with_reducible assumption)) ?_; refine y3 ?_; refine yX ?_; refine wE_skip ?_; refine kS_n ?_; refine wE_seq ?_
    refine y4 ?_; refine yM ?_; refine wO_val (a_num (by exact rfl) (by exact rfl) (by with_reducible assumption)) ?_; refine y3 ?_; refine yY ?_; refine y4 ?_
    refine yM ?_; refine yM ?_; refine yM ?_; refine y3 ?_; refine wE_ret ?_; refine kS_r ?_
    exact endA_ret hL rfl (nilA p2 hp)
end Go.A.Pk
end
section
set_option maxRecDepth 100000
namespace Go.A.Pk
variable {T : Nat → Option AFunc}
def earlyR (day : Int) (l : List Rd) : List Rd := l.filter fun r => !decide (day < r.known)
def cntP (day : Int) (l : List Rd) : List Rd := (earlyR day l).filter fun r => !(decide (r.kind = 3) || voidR (earlyR day l) r.id)
def gone (day : Int) (l : List Rd) (z : Int) : Bool := l.any fun r => (decide (r.kind = 3) && decide (r.known ≤ day)) && decide (r.of = z)
def cntQ (day : Int) (l : List Rd) (r : Rd) : Bool := (decide (r.kind ≠ 3) && decide (r.known ≤ day)) && !gone day l r.id
def cntR (day : Int) (l : List Rd) : List Rd := l.filter (cntQ day l)
theorem dec_le (day z : Int) : (!decide (day < z)) = decide (z ≤ day) := by
  by_cases h : day < z
  · rw [decide_eq_true h, decide_eq_false (by omega)]; rfl
  · rw [decide_eq_false h, decide_eq_true (by omega)]; rfl
theorem gone_eq (day : Int) (l : List Rd) (z : Int) : voidR (earlyR day l) z = gone day l z := by
  unfold voidR earlyR gone
  rw [List.any_filter]
  congr 1
  funext r
  rw [dec_le]
  cases decide (r.known ≤ day) <;> cases decide (r.kind = 3) <;> simp
theorem cnt_law (day : Int) (l : List Rd) : cntP day l = cntR day l := by
  unfold cntP cntR
  simp only [gone_eq]
  unfold earlyR
  rw [List.filter_filter]
  congr 1
  funext r
  unfold cntQ
  rw [dec_le]
  generalize gone day l r.id = g
  by_cases hk : r.kind = 3
  · simp [hk]
  · simp only [hk, ne_eq, not_false_eq_true, decide_true, decide_false, Bool.false_or, Bool.true_and]
    rw [Bool.and_comm]
theorem RdS.agree {h h' : Heap} {v : Value} {l : List Rd} (s : RdS h v l) (hn : h.next ≤ h'.next) (ha : ∀ b, b < h.next → h'.get b = h.get b) : RdS h' v l := ⟨s.sl.agree hn fun b _ _ _ hb _ => ha b hb, s.ok⟩
set_option maxHeartbeats 4000000 in
theorem counting44 (F : FnsFo T) (h40 : T 40 = some f40) (h131 : T 131 = some f131) (h132 : T 132 = some f132) (h133 : T 133 = some f133) (h134 : T 134 = some f134) (hf : T 44 = some f44) {h : Heap} (hr : Rdy h) {a : Option Addr} {n c : Nat} {l : List Rd} (s : RdS h (.slice a n c) l) (hn : n < 1000000) (day : Int) :
    Al T 44 [.slice a n c, .int .i64 day] h (AppR (chkR folR l).2 (cntP day l)) := by
  refine .of F.p hf hr (fun v h1 hv q => AppR.flat hv q) ?_
  obtain rfl := s.len
  have hrb : Box (h.push (.cells (cellsOf (Value.int .i64 day)) true 1)) h.next (.int .i64 day) := z3 h _
  have W : WF (h.push (.cells (cellsOf (Value.int .i64 day)) true 1)) := hr.wf.push _
  have x : Ext h (h.push (.cells (cellsOf (Value.int .i64 day)) true 1)) := (Ext.refl h).push _
  have hnx : h.next < (h.push (.cells (cellsOf (Value.int .i64 day)) true 1)).next := Nat.lt_succ_self _
  have C1 := check40 F h40 (.of W) ((s.ext x).log []) hn
  refine y4 ?_; refine yB ?_; refine yM ?_; refine yM ?_; refine y3 ?_; refine wE_seq ?_
  generalize (h.push (.cells (cellsOf (Value.int .i64 day)) true 1)) = H at *
  have hL : H.log = [] := x.log.trans hr.log
  have nilA : ∀ e : Int, e ≠ 0 → AppR e (cntP day l) (.tuple #[.slice none 0 0, .int .i64 e]) H := fun e he => ⟨_, rfl, by rw [if_neg he]; exact ⟨.nil, fun r hr => by cases hr⟩⟩
  refine y4 ?_; refine yM ?_
  refine yC ?_
  refine FW.pu C1 ?_
  clear C1
  rcases chkR folR l with ⟨p1, p2⟩
  unfold ckV
  by_cases hp : p2 = 0
  · subst hp
    refine yM ?_; refine yE ?_; refine yE ?_; refine yM ?_; refine yM ?_; refine y3 ?_; refine y4 ?_; refine yM ?_; refine yf ?_; refine y3 ?_; refine yX ?_; refine wE_skip ?_; refine kS_n ?_; refine y4 ?_
    refine yM ?_
    refine yC ?_
    refine FW.al (clone131 F.p h131 (.of W) ((s.ext x).log []) hn) (fun v h' m q => q.log m) ?_
    rintro v H1 x1 q1
    have W1 := x1.wf W
    have hL1 := x1.log.trans hL
    have hrb1 : Box H1 h.next (.int .i64 day) := (x1.old _ hnx).trans hrb
    refine wO_val (a_mkFunc (by exact rfl) (by exact rfl)) ?_
    refine yC ?_
    refine FW.gs0 (delete132 F.p h132 F.vo.f219 (lo := H.next) (.of W1) (q1.log []) s.ok hn (g := 133) (cap := [.pointer (some ⟨h.next, 0, none⟩)]) (fun r => decide (day < r.known)) (fun h' w hnn hold r hR => late133 F.p h133 (.of w) (b := h.next) ((hold _ hnx).trans hrb1) r)) (fun v h' m q => q.log m) (fun z hz => by omega) ?_
    rintro v2 H2 n2 l2 o2 w2 (q2 : RdS H2 v2 (earlyR day l))
    have W2 := w2 W1
    have hL2 := l2.trans hL1
    have hx1 := x1.next
    have n2' : H1.next ≤ H2.next := n2
    obtain ⟨a2, c2, rfl⟩ := q2.sl.form
    have hn2 : (earlyR day l).length < 1000000 := Nat.lt_of_le_of_lt (List.length_filter_le ..) hn
    have hb8 : ((H2.push (.cells [.slice none 0 0] true 1)).wr h.next H2.next (.cells (lputs [Value.slice none 0 0] 0 (cellsOf (Value.slice a2 (earlyR day l).length c2))) true 1)).get H2.next = some (.cells [.slice a2 (earlyR day l).length c2] true 1) := by rw [z6, z3]; rfl
    have x3 : Ext H2 ((H2.push (.cells [.slice none 0 0] true 1)).wr h.next H2.next (.cells (lputs [Value.slice none 0 0] 0 (cellsOf (Value.slice a2 (earlyR day l).length c2))) true 1)) := ⟨Nat.le_succ _, Heap.log_wr_new (by omega), fun b hb => by
      rw [z5 (by omega), z4 (by omega)], fun w => (w.push _).as (AS.wr h.next _ _ _)⟩
    have n3 : H2.next < ((H2.push (.cells [.slice none 0 0] true 1)).wr h.next H2.next (.cells (lputs [Value.slice none 0 0] 0 (cellsOf (Value.slice a2 (earlyR day l).length c2))) true 1)).next := Nat.lt_succ_self _
    refine wO_val (a_new) ?_; refine yS ?_; refine y3 ?_
    generalize ((H2.push (.cells [.slice none 0 0] true 1)).wr h.next H2.next (.cells (lputs [Value.slice none 0 0] 0 (cellsOf (Value.slice a2 (earlyR day l).length c2))) true 1)) = H3 at *
    have W3 := x3.wf W2
    have hL3 := x3.log.trans hL2
    have q3 := q2.ext x3
    refine y4 ?_; refine yL ?_
    refine yC ?_
    refine FW.al (clone131 F.p h131 (.of W3) (q3.log []) hn2) (fun v h' m q => q.log m) ?_
    rintro v4 H4 x4 q4
    have W4 := x4.wf W3
    have hL4 := x4.log.trans hL3
    have hb84 : Box H4 H2.next (.slice a2 (earlyR day l).length c2) := (x4.old _ n3).trans hb8
    have q5 := q3.ext x4
    refine wO_val (a_mkFunc (by exact rfl) (by exact rfl)) ?_
    refine yC ?_
    refine FW.gs0 (delete132 F.p h132 F.vo.f219 (lo := H3.next) (.of W4) (q4.log []) q2.ok hn2 (g := 134) (cap := [.pointer (some ⟨H2.next, 0, none⟩)]) (fun r => decide (r.kind = 3) || voidR (earlyR day l) r.id)
      (fun h' w hnn hold r hR => out134 F.vo h134 (.of w) (b := H2.next) ((hold _ n3).trans hb84) (((q3.agree (Nat.le_trans x4.next hnn) fun b hb => (hold b hb).trans (x4.old b hb))).log []) hn2 r)) (fun v h' m q => q.log m) (fun z hz => by have := x3.next; omega) ?_
    rintro v6 H6 n6 l6 o6 w6 (q6 : RdS H6 v6 (cntP day l))
    refine yM ?_; refine yM ?_; refine y3 ?_; refine wE_ret ?_
    refine endA_ret (l6.trans hL4) rfl ⟨v6, rfl, ?_⟩
    rw [if_pos rfl]; exact q6
  · have m1 : numOp .neq (.int .i64 p2) (.int .i64 0) = some (.bool true) := m_neqT hp
    refine yM ?_; refine yE ?_; refine yE ?_; refine yM ?_; refine yM ?_; refine y3 ?_; refine y4 ?_; refine yM ?_; refine wO_val (a_num (by exact rfl) (by exact rfl) (by with_reducible assumption)) ?_; refine y3 ?_; refine yY ?_; refine y4 ?_; refine yM ?_
    refine yM ?_; refine yM ?_; refine y3 ?_; refine wE_ret ?_; refine kS_r ?_
    exact endA_ret hL rfl (nilA p2 hp)
end Go.A.Pk
end
section
set_option maxRecDepth 100000
namespace Go.A.Pk
variable {T : Nat → Option AFunc}
set_option maxHeartbeats 8000000 in
theorem counting136 (hp : primAS T) (hf : T 136 = some f136) {h : Heap} (hr : Rdy h) {a : Option Addr} {n c : Nat} {l : List Rd} (s : RdS h (.slice a n c) l) (hn : n < 1000000) (day : Int) :
    Al T 136 [.slice a n c, .int .i64 day] h fun v h' => RdS h' v (cntR day l) := by
  refine .of hp hf hr ?_ ?_
  · intro v h1 hv q
    refine ⟨?_, q.ok⟩
    rcases q.sl.inv with ⟨c', rfl, h0, e1⟩ | ⟨b, o, cap', rfl, s1, hc⟩
    · rw [h0, e1]; exact .nil
    · cases hv
  obtain rfl := s.len
  refine y4 ?_; refine yM ?_; refine y3 ?_; refine y4 ?_; refine yM ?_; refine y3 ?_; refine wE_seq ?_; refine y4 ?_; refine yM ?_; refine y3 ?_; refine wE_block ?_
  refine wE_loop (fun m e ds h' => ∃ (i : Nat) (v : Value), i ≤ l.length ∧ m = l.length - i ∧ e = [(0, .slice a l.length c), (1, .int .i64 day), (5, v), (6, .int .i64 (i : Nat))] ∧ ds = [] ∧ Ext h h' ∧ Own h.next h' 12 v ((l.take i).filter (cntQ day l)).length (rsL ((l.take i).filter (cntQ day l))))
    ⟨0, _, Nat.zero_le _, rfl, rfl, rfl, .refl h, .nil⟩ ?_
  rintro m e ds H ⟨i, v, hin, rfl, rfl, rfl, x, ow⟩
  have W := x.wf hr.wf
  have hL := x.log.trans hr.log
  by_cases hlt : i < l.length
  · obtain ⟨r, hri⟩ : ∃ r, l[i]? = some r := ⟨l[i], List.getElem?_eq_getElem hlt⟩
    have hR := s.ok r (List.mem_of_getElem? hri)
    obtain ⟨b, o, vs, own, t, rfl, e1, e2, hb, _⟩ := (s.ext x).elem hri
    have k1 := e2.all
    have k2 := rdL_llen hR
    have f1 := e2.id
    have f2 := e2.kind
    have f3 := e2.known
    have m1 := m_neK (k := r.kind)
    have m2 : numOp .leq (.int .i64 r.known) (.int .i64 day) = some (.bool (decide (r.known ≤ day))) := m_leq
    generalize hq1 : decide (r.kind ≠ 3) = d1 at m1
    generalize hq2 : decide (r.known ≤ day) = d2 at m2
    refine wE_seq ?_; refine y4 ?_; refine yM ?_; refine yM ?_; refine yD ?_; refine yt ?_; refine y3 ?_
    refine yY ?_; refine wE_skip ?_; refine kS_n ?_; refine wE_seq ?_; refine wE_block ?_
    refine wE_cutE (E := [(0, .slice (some ⟨b, o, none⟩) l.length c), (1, .int .i64 day), (5, v), (6, .int .i64 (i : Nat)), (7, .bool (d1 && d2))]) (H := H) ?_ ?_
    · cases d1 with
      | true =>
        refine wE_region ?_; refine yM ?_; refine yM ?_; refine wO_val (a_iaddrS (by exact rfl) (by exact rfl) (by omega)) ?_; refine yF ?_; refine wO_val (a_load (by exact rfl) (by assumption) (by assumption)) ?_; refine wO_val (a_num (by exact rfl) (by exact rfl) (by with_reducible assumption)) ?_
        refine yM ?_; refine yO ?_; refine yM ?_; refine yO ?_; refine yM ?_; refine yO ?_; refine wO_val (a_iaddrS (by exact rfl) (by exact rfl) (by omega)) ?_; refine yO ?_; refine yF ?_; refine yO ?_
        refine wO_val (a_load (by exact rfl) (by assumption) (by assumption)) ?_; refine yO ?_; refine yM ?_; refine yO ?_; refine wO_val (a_num (by exact rfl) (by exact rfl) (by with_reducible assumption)) ?_; refine yT ?_; refine yM ?_; refine wO_nil ?_
        refine y1 ?_
        exact ⟨rfl, rfl, rfl, rfl⟩
      | false =>
        refine wE_region ?_; refine yM ?_; refine yM ?_; refine wO_val (a_iaddrS (by exact rfl) (by exact rfl) (by omega)) ?_; refine yF ?_; refine wO_val (a_load (by exact rfl) (by assumption) (by assumption)) ?_; refine wO_val (a_num (by exact rfl) (by exact rfl) (by with_reducible assumption)) ?_
        refine yM ?_; refine yP ?_; refine yP ?_; refine yP ?_; refine yP ?_; refine yP ?_; refine yP ?_; refine yP ?_
        refine yU ?_; refine yM ?_; refine wO_nil ?_; refine y1 ?_
        exact ⟨rfl, rfl, rfl, rfl⟩
    clear m1 m2
    generalize hd : (d1 && d2) = d
    refine wE_seq ?_; refine y4 ?_; refine yM ?_; refine y3 ?_; refine wE_block ?_
    refine wE_loop (fun m e ds h' => ∃ k : Nat, k ≤ l.length ∧ m = l.length - k ∧ e = [(0, .slice (some ⟨b, o, none⟩) l.length c), (1, .int .i64 day), (5, v), (6, .int .i64 (i : Nat)), (7, .bool (d && !gone day (l.take k) r.id)), (8, .int .i64 (k : Nat))] ∧ ds = [] ∧ H = h')
      ⟨0, Nat.zero_le _, rfl, by cases d <;> rfl, rfl, rfl⟩ ?_
    rintro m e ds _ ⟨k, hkn, rfl, rfl, rfl, rfl⟩
    by_cases hkl : k < l.length
    · obtain ⟨q, hqi⟩ : ∃ q, l[k]? = some q := ⟨l[k], List.getElem?_eq_getElem hkl⟩
      obtain ⟨b2, o2, vs2, own2, t2, he, j1, j2, _, _⟩ := (s.ext x).elem hqi
      cases he
      cases Option.some.inj (e1.symm.trans j1)
      clear j1
      have g2 := j2.kind
      have g3 := j2.known
      have g4 := j2.of
      have n1 : numOp .eql (.int .u8 (q.kind : Nat)) (.int .u8 3) = _ := m_eqI (c := 3) rfl
      have n2 : numOp .leq (.int .i64 q.known) (.int .i64 day) = some (.bool (decide (q.known ≤ day))) := m_leq
      have n3 := m_eqlI (a := q.of) (b := r.id)
      have hG : gone day (l.take (k + 1)) r.id = (gone day (l.take k) r.id || (decide (q.kind = 3) && decide (q.known ≤ day) && decide (q.of = r.id))) := any_take hqi _
      generalize decide (q.kind = 3) = d3 at n1 hG
      generalize decide (q.known ≤ day) = d4 at n2 hG
      generalize decide (q.of = r.id) = d5 at n3 hG
      cases d3 with
      | false =>
        refine wE_seq ?_; refine y4 ?_; refine yM ?_; refine yM ?_; refine yD ?_; refine yt ?_; refine y3 ?_
        refine yY ?_; refine wE_skip ?_; refine kS_n ?_; refine wE_seq ?_; refine wE_block ?_; refine wE_seq ?_; refine wE_draw ?_; refine qM ?_; refine qM ?_
        refine wD_quiet rfl rfl rfl (by exact rfl) (by exact rfl) (by exact rfl) (a_iaddrS (by exact rfl) (by exact rfl) (by omega)) ?_; refine qF ?_; refine wD_quiet rfl rfl rfl (by exact rfl) (by exact rfl) (by exact rfl) (a_load (by exact rfl) (by assumption) (by assumption)) ?_
        refine wD_quiet rfl rfl rfl (by exact rfl) (by exact rfl) (by exact rfl) (a_num (by exact rfl) (by exact rfl) (by with_reducible assumption)) ?_; refine qM ?_; refine wD_off rfl rfl rfl (by exact rfl) ?_; refine wD_off rfl rfl rfl (by exact rfl) ?_; refine wD_off rfl rfl rfl (by exact rfl) ?_
        refine wD_off rfl rfl rfl (by exact rfl) ?_; refine wD_off rfl rfl rfl (by exact rfl) ?_; refine wD_off rfl rfl rfl (by exact rfl) ?_; refine wD_off rfl rfl rfl (by exact rfl) ?_; refine wD_quiet rfl rfl rfl (by exact rfl) (by exact rfl) (by exact rfl) (a_pickF (by exact rfl) (by exact rfl)) ?_; refine qM ?_
        refine wD_off rfl rfl rfl (by exact rfl) ?_; refine wD_off rfl rfl rfl (by exact rfl) ?_; refine wD_off rfl rfl rfl (by exact rfl) ?_; refine wD_off rfl rfl rfl (by exact rfl) ?_; refine wD_off rfl rfl rfl (by exact rfl) ?_; refine wD_off rfl rfl rfl (by exact rfl) ?_; refine wD_off rfl rfl rfl (by exact rfl) ?_; refine wD_off rfl rfl rfl (by exact rfl) ?_
        refine wD_off rfl rfl rfl (by exact rfl) ?_; refine wD_off rfl rfl rfl (by exact rfl) ?_; refine wD_off rfl rfl rfl (by exact rfl) ?_; refine wD_quiet rfl rfl rfl (by exact rfl) (by exact rfl) (by exact rfl) (a_pickF (by exact rfl) (by exact rfl)) ?_; refine wD_nil ?_; refine y1 ?_; refine kS_n ?_
        refine yX ?_; refine wE_skip ?_; refine kB_n ?_; refine kS_n ?_; refine wE_region ?_; refine yM ?_; refine yinc ?_; refine yM ?_; refine y3 ?_
        exact ⟨l.length - (k + 1), by omega, k + 1, by omega, rfl, by rw [hG]; simp, rfl, rfl⟩
      | true =>
        cases d4 with
        | false =>
          refine wE_seq ?_; refine y4 ?_; refine yM ?_; refine yM ?_; refine yD ?_; refine yt ?_; refine y3 ?_
          refine yY ?_; refine wE_skip ?_; refine kS_n ?_; refine wE_seq ?_; refine wE_block ?_; refine wE_seq ?_; refine wE_draw ?_; refine qM ?_; refine qM ?_
          refine wD_quiet rfl rfl rfl (by exact rfl) (by exact rfl) (by exact rfl) (a_iaddrS (by exact rfl) (by exact rfl) (by omega)) ?_; refine qF ?_; refine wD_quiet rfl rfl rfl (by exact rfl) (by exact rfl) (by exact rfl) (a_load (by exact rfl) (by assumption) (by assumption)) ?_
          refine wD_quiet rfl rfl rfl (by exact rfl) (by exact rfl) (by exact rfl) (a_num (by exact rfl) (by exact rfl) (by with_reducible assumption)) ?_; refine qM ?_; refine qM ?_
          refine qM ?_; refine wD_quiet rfl rfl rfl (by exact rfl) (by exact rfl) (by exact rfl) (a_iaddrS (by exact rfl) (by exact rfl) (by omega)) ?_; refine qF ?_
          refine wD_quiet rfl rfl rfl (by exact rfl) (by exact rfl) (by exact rfl) (a_load (by exact rfl) (by assumption) (by assumption)) ?_; refine qM ?_; refine wD_quiet rfl rfl rfl (by exact rfl) (by exact rfl) (by exact rfl) (a_num (by exact rfl) (by exact rfl) (by with_reducible assumption)) ?_
          refine wD_quiet rfl rfl rfl (by exact rfl) (by exact rfl) (by exact rfl) (a_pickT (by exact rfl) (by exact rfl)) ?_; refine qM ?_; refine wD_off rfl rfl rfl (by exact rfl) ?_; refine wD_off rfl rfl rfl (by exact rfl) ?_; refine wD_off rfl rfl rfl (by exact rfl) ?_; refine wD_off rfl rfl rfl (by exact rfl) ?_
          refine wD_off rfl rfl rfl (by exact rfl) ?_; refine wD_off rfl rfl rfl (by exact rfl) ?_; refine wD_off rfl rfl rfl (by exact rfl) ?_; refine wD_off rfl rfl rfl (by exact rfl) ?_; refine wD_off rfl rfl rfl (by exact rfl) ?_; refine wD_off rfl rfl rfl (by exact rfl) ?_; refine wD_off rfl rfl rfl (by exact rfl) ?_
          refine wD_quiet rfl rfl rfl (by exact rfl) (by exact rfl) (by exact rfl) (a_pickF (by exact rfl) (by exact rfl)) ?_; refine wD_nil ?_; refine y1 ?_; refine kS_n ?_; refine yX ?_; refine wE_skip ?_; refine kB_n ?_; refine kS_n ?_; refine wE_region ?_; refine yM ?_
          refine yinc ?_; refine yM ?_; refine y3 ?_
          exact ⟨l.length - (k + 1), by omega, k + 1, by omega, rfl, by rw [hG]; simp, rfl, rfl⟩
        | true =>
          cases d5 with
          | false =>
            refine wE_seq ?_; refine y4 ?_; refine yM ?_; refine yM ?_; refine yD ?_; refine yt ?_; refine y3 ?_
            refine yY ?_; refine wE_skip ?_; refine kS_n ?_; refine wE_seq ?_; refine wE_block ?_; refine wE_seq ?_; refine wE_draw ?_; refine qM ?_; refine qM ?_
            refine wD_quiet rfl rfl rfl (by exact rfl) (by exact rfl) (by exact rfl) (a_iaddrS (by exact rfl) (by exact rfl) (by omega)) ?_; refine qF ?_; refine wD_quiet rfl rfl rfl (by exact rfl) (by exact rfl) (by exact rfl) (a_load (by exact rfl) (by assumption) (by assumption)) ?_
            refine wD_quiet rfl rfl rfl (by exact rfl) (by exact rfl) (by exact rfl) (a_num (by exact rfl) (by exact rfl) (by with_reducible assumption)) ?_; refine qM ?_; refine qM ?_
            refine qM ?_; refine wD_quiet rfl rfl rfl (by exact rfl) (by exact rfl) (by exact rfl) (a_iaddrS (by exact rfl) (by exact rfl) (by omega)) ?_; refine qF ?_
            refine wD_quiet rfl rfl rfl (by exact rfl) (by exact rfl) (by exact rfl) (a_load (by exact rfl) (by assumption) (by assumption)) ?_; refine qM ?_; refine wD_quiet rfl rfl rfl (by exact rfl) (by exact rfl) (by exact rfl) (a_num (by exact rfl) (by exact rfl) (by with_reducible assumption)) ?_
            refine wD_quiet rfl rfl rfl (by exact rfl) (by exact rfl) (by exact rfl) (a_pickT (by exact rfl) (by exact rfl)) ?_; refine qM ?_; refine qM ?_
            refine qM ?_; refine wD_quiet rfl rfl rfl (by exact rfl) (by exact rfl) (by exact rfl) (a_iaddrS (by exact rfl) (by exact rfl) (by omega)) ?_; refine qF ?_
            refine wD_quiet rfl rfl rfl (by exact rfl) (by exact rfl) (by exact rfl) (a_load (by exact rfl) (by assumption) (by assumption)) ?_; refine qM ?_; refine qM ?_
            refine wD_quiet rfl rfl rfl (by exact rfl) (by exact rfl) (by exact rfl) (a_iaddrS (by exact rfl) (by exact rfl) (by omega)) ?_; refine qF ?_; refine wD_quiet rfl rfl rfl (by exact rfl) (by exact rfl) (by exact rfl) (a_load (by exact rfl) (by assumption) (by assumption)) ?_
            refine wD_quiet rfl rfl rfl (by exact rfl) (by exact rfl) (by exact rfl) (a_num (by exact rfl) (by exact rfl) (by with_reducible assumption)) ?_; refine wD_quiet rfl rfl rfl (by exact rfl) (by exact rfl) (by exact rfl) (a_pickT (by exact rfl) (by exact rfl)) ?_; refine wD_nil ?_; refine y1 ?_; refine kS_n ?_
            refine yX ?_; refine wE_skip ?_; refine kB_n ?_; refine kS_n ?_; refine wE_region ?_; refine yM ?_; refine yinc ?_; refine yM ?_; refine y3 ?_
            exact ⟨l.length - (k + 1), by omega, k + 1, by omega, rfl, by rw [hG]; simp, rfl, rfl⟩
          | true =>
            refine wE_seq ?_; refine y4 ?_; refine yM ?_; refine yM ?_; refine yD ?_; refine yt ?_; refine y3 ?_
            refine yY ?_; refine wE_skip ?_; refine kS_n ?_; refine wE_seq ?_; refine wE_block ?_; refine wE_seq ?_; refine wE_draw ?_; refine qM ?_; refine qM ?_
            refine wD_quiet rfl rfl rfl (by exact rfl) (by exact rfl) (by exact rfl) (a_iaddrS (by exact rfl) (by exact rfl) (by omega)) ?_; refine qF ?_; refine wD_quiet rfl rfl rfl (by exact rfl) (by exact rfl) (by exact rfl) (a_load (by exact rfl) (by assumption) (by assumption)) ?_
            refine wD_quiet rfl rfl rfl (by exact rfl) (by exact rfl) (by exact rfl) (a_num (by exact rfl) (by exact rfl) (by with_reducible assumption)) ?_; refine qM ?_; refine qM ?_
            refine qM ?_; refine wD_quiet rfl rfl rfl (by exact rfl) (by exact rfl) (by exact rfl) (a_iaddrS (by exact rfl) (by exact rfl) (by omega)) ?_; refine qF ?_
            refine wD_quiet rfl rfl rfl (by exact rfl) (by exact rfl) (by exact rfl) (a_load (by exact rfl) (by assumption) (by assumption)) ?_; refine qM ?_; refine wD_quiet rfl rfl rfl (by exact rfl) (by exact rfl) (by exact rfl) (a_num (by exact rfl) (by exact rfl) (by with_reducible assumption)) ?_
            refine wD_quiet rfl rfl rfl (by exact rfl) (by exact rfl) (by exact rfl) (a_pickT (by exact rfl) (by exact rfl)) ?_; refine qM ?_; refine qM ?_
            refine qM ?_; refine wD_quiet rfl rfl rfl (by exact rfl) (by exact rfl) (by exact rfl) (a_iaddrS (by exact rfl) (by exact rfl) (by omega)) ?_; refine qF ?_
            refine wD_quiet rfl rfl rfl (by exact rfl) (by exact rfl) (by exact rfl) (a_load (by exact rfl) (by assumption) (by assumption)) ?_; refine qM ?_; refine qM ?_
            refine wD_quiet rfl rfl rfl (by exact rfl) (by exact rfl) (by exact rfl) (a_iaddrS (by exact rfl) (by exact rfl) (by omega)) ?_; refine qF ?_; refine wD_quiet rfl rfl rfl (by exact rfl) (by exact rfl) (by exact rfl) (a_load (by exact rfl) (by assumption) (by assumption)) ?_
            refine wD_quiet rfl rfl rfl (by exact rfl) (by exact rfl) (by exact rfl) (a_num (by exact rfl) (by exact rfl) (by with_reducible assumption)) ?_; refine wD_quiet rfl rfl rfl (by exact rfl) (by exact rfl) (by exact rfl) (a_pickT (by exact rfl) (by exact rfl)) ?_; refine wD_nil ?_; refine y1 ?_; refine kS_n ?_
            refine yY ?_; refine wE_region ?_; refine yM ?_; refine wO_nil ?_; refine y1 ?_; refine kB_n ?_; refine kS_n ?_; refine wE_region ?_; refine yM ?_; refine yinc ?_
            refine yM ?_; refine y3 ?_
            exact ⟨l.length - (k + 1), by omega, k + 1, by omega, rfl, by rw [hG]; simp, rfl, rfl⟩
    · obtain rfl : k = l.length := by omega
      rw [List.take_length]
      have hQ : cntQ day l r = (d && !gone day l r.id) := by
        unfold cntQ; rw [hq1, hq2, hd]
      have hT := take_at hri (cntQ day l)
      rw [hQ] at hT
      generalize (d && !gone day l r.id) = dd at hT
      cases dd with
      | false =>
        refine wE_seq ?_; refine y4 ?_; refine yM ?_; refine yM ?_; refine yD ?_; refine yf ?_; refine y3 ?_
        refine yX ?_; refine wE_exit ?_; refine kS_e ?_; refine kS_e ?_; refine kB_e ?_; refine kS_n ?_; refine y4 ?_; refine yM ?_; refine y3 ?_; refine yX ?_; refine wE_skip ?_; refine kB_n ?_
        refine kS_n ?_; refine wE_region ?_; refine yM ?_; refine yinc ?_; refine yM ?_; refine y3 ?_
        refine ⟨l.length - (i + 1), by omega, i + 1, v, by omega, rfl, rfl, rfl, x, ?_⟩
        rw [hT]; simpa using ow
      | true =>
        refine wE_seq ?_; refine y4 ?_; refine yM ?_; refine yM ?_; refine yD ?_; refine yf ?_; refine y3 ?_
        refine yX ?_; refine wE_exit ?_; refine kS_e ?_; refine kS_e ?_; refine kB_e ?_; refine kS_n ?_; refine y4 ?_; refine yM ?_; refine y3 ?_; refine yY ?_; refine wE_region ?_
        refine yM ?_; refine yM ?_; refine yM ?_; refine wO_val (a_iaddrS (by exact rfl) (by exact rfl) (by omega)) ?_; refine wO_val (a_loadN (by exact rfl) (by assumption) (by assumption) (by assumption)) ?_; refine wO_val (a_bslice (fill_rd (by assumption) rfl (by exact rfl)) rfl) ?_
        refine wO_app1 (lo := h.next) (sz := 12) (v := v) (c1 := rdL r) (ow.ext ((Ext.refl H).push _)) (by have := List.length_filter_le (cntQ day l) (l.take i); have := List.length_take_le i l; omega) (by omega) (by omega) (by exact Nat.le_succ_of_le x.next) (Nat.le_refl _) (by exact rfl) (by exact rfl) (src_slice (cs := rdL r) (by (simp (disch := first | omega | (simp only [z1, z2]; omega)) only [z3, z4, z5, z6, z7, z1, z2, e1]; exact rfl)) (rdL_all hR) (rdL_length hR)) (rdL_length hR) (rdL_ones r) ?_
        intro v' h3 o3 x3
        have hx3 : Ext h h3 := (((x.lx (Nat.le_refl _)).push x.next _).trans x3).ext
        refine yM ?_; refine wO_nil ?_; refine y1 ?_; refine kB_n ?_; refine kS_n ?_; refine wE_region ?_; refine yM ?_; refine yinc ?_; refine yM ?_; refine y3 ?_
        refine ⟨l.length - (i + 1), by omega, i + 1, v', by omega, rfl, rfl, rfl, hx3, ?_⟩
        rw [hT]
        simpa [rsL] using o3
  · obtain rfl : i = l.length := by omega
    rw [List.take_length] at ow
    refine wE_seq ?_; refine y4 ?_; refine yM ?_; refine yM ?_; refine yD ?_; refine yf ?_; refine y3 ?_
    refine yX ?_; refine wE_exit ?_; refine kS_e ?_; refine kS_e ?_; refine kB_e ?_; refine kS_n ?_; refine y4 ?_; refine yM ?_; refine yM ?_; refine y3 ?_; refine wE_ret ?_
    refine endA_ret hL rfl ⟨?_, fun z hz => s.ok z (List.mem_filter.1 hz).1⟩
    exact ow.slice (by have := List.length_filter_le (cntQ day l) l; omega)
end Go.A.Pk
end
section
set_option maxRecDepth 100000
namespace Go.A.Pk
variable {T : Nat → Option AFunc}
set_option maxHeartbeats 4000000 in
theorem counting45 (F : FnsRf T) (h41 : T 41 = some f41) (h136 : T 136 = some f136) (hf : T 45 = some f45) {h : Heap} (hr : Rdy h) {a : Option Addr} {n c : Nat} {l : List Rd} (s : RdS h (.slice a n c) l) (hn : n < 1000000) (day : Int) :
    Al T 45 [.slice a n c, .int .i64 day] h (AppR (chkR refR l).2 (cntR day l)) := by
  refine .of F.p hf hr (fun v h1 hv q => AppR.flat hv q) ?_
  obtain rfl := s.len
  have C1 := check41 F h41 hr s hn
  have hL := hr.log
  have nilA : ∀ e : Int, e ≠ 0 → AppR e (cntR day l) (.tuple #[.slice none 0 0, .int .i64 e]) h := fun e he => ⟨_, rfl, by rw [if_neg he]; exact ⟨.nil, fun r hr => by cases hr⟩⟩
  refine y4 ?_; refine yM ?_; refine yM ?_; refine y3 ?_; refine y4 ?_; refine yM ?_
  refine yC ?_
  refine FW.pu (by rw [hr.self]; exact C1) ?_
  clear C1
  rcases chkR refR l with ⟨p1, p2⟩
  unfold ckV
  by_cases hp : p2 = 0
  · subst hp
    refine yM ?_; refine yE ?_; refine yE ?_; refine yM ?_; refine yM ?_; refine y3 ?_; refine wE_seq ?_
    refine y4 ?_; refine yM ?_; refine yf ?_; refine y3 ?_; refine yX ?_; refine wE_skip ?_; refine kS_n ?_; refine y4 ?_; refine yM ?_; refine yM ?_
    refine yC ?_
    refine FW.al (counting136 F.p h136 (.of hr.wf) (s.log []) hn day) (fun v h' m q => q.log m) ?_
    rintro v H1 x1 q1
    refine yM ?_; refine yM ?_; refine y3 ?_; refine wE_ret ?_
    refine endA_ret (x1.log.trans hL) rfl ⟨v, rfl, ?_⟩
    rw [if_pos rfl]; exact q1
  · have m1 : numOp .neq (.int .i64 p2) (.int .i64 0) = some (.bool true) := m_neqT hp
    refine yM ?_; refine yE ?_; refine yE ?_; refine yM ?_; refine yM ?_; refine y3 ?_; refine wE_seq ?_
    refine y4 ?_; refine yM ?_; refine wO_val (a_num (by exact rfl) (by exact rfl) (by with_reducible assumption)) ?_; refine y3 ?_; refine yY ?_; refine y4 ?_
    refine yM ?_; refine yM ?_; refine yM ?_; refine y3 ?_; refine wE_ret ?_; refine kS_r ?_
    exact endA_ret hL rfl (nilA p2 hp)
theorem lv_int {k : IntKind} {a b : Int} {ls : List Leaf} {xs ys : List Value} {c : Bool} (h : leavesEq ls xs ys = some c) : leavesEq (.i k :: ls) (.int k a :: xs) (.int k b :: ys) = some (decide (a = b) && c) := by
  have h0 : leafEq (.i k) (.int k a) (.int k b) = some (a == b) := by simp [leafEq]
  by_cases hab : a = b
  · subst hab
    simp only [leavesEq, h0, beq_self_eq_true, h]; simp
  · have : (a == b) = false := by simpa using hab
    simp only [leavesEq, h0, this, h, decide_eq_false hab, Bool.false_and]
theorem lv_us {ls : List Leaf} {xs ys : List Value} {c : Bool} (h : leavesEq ls xs ys = some c) : ∀ a b : List Nat, a.length = b.length → leavesEq (lrep a.length (.i .u64) ++ ls) (us a ++ xs) (us b ++ ys) = some (decide (a = b) && c)
  | [], [], _ => by
    show leavesEq ls xs ys = some (decide (([] : List Nat) = []) && c)
    rw [h]; simp
  | x :: a, y :: b, hl => by
    have ih := lv_us h a b (by simpa using hl)
    have := lv_int (k := .u64) (a := (x : Int)) (b := (y : Int)) ih
    show leavesEq (.i .u64 :: (lrep a.length (.i .u64) ++ ls)) (.int .u64 (x : Int) :: (us a ++ xs)) (.int .u64 (y : Int) :: (us b ++ ys)) = _
    rw [this, ← Bool.and_assoc]
    congr 2
    rw [← Bool.decide_and]
    congr 1
    simp only [List.cons.injEq, eq_iff_iff, and_congr_left_iff]
    intro _; omega
  | [], _ :: _, hl => by simp at hl
  | _ :: _, [], hl => by simp at hl
theorem rd_leaves {x y : Rd} (hx : IsR x) (hy : IsR y) : leavesEq [.i .i64, .i .i64, .i .u8, .i .u64, .i .u64, .i .u64, .i .u64, .i .u64, .i .u64, .i .u64, .i .u64, .i .i64] (rdL x).toArray.toList (rdL y).toArray.toList = some (decide (x = y)) := by
  rw [List.toList_toArray, List.toList_toArray]
  have h0 : leavesEq [] [] [] = some true := rfl
  have h1 := lv_us (lv_int (k := .i64) (a := x.of) (b := y.of) h0) x.cells y.cells (by rw [hx.cells.len, hy.cells.len])
  rw [hx.cells.len] at h1
  have h2 := lv_int (k := .i64) (a := x.id) (b := y.id) (lv_int (k := .i64) (a := x.known) (b := y.known) (lv_int (k := .u8) (a := (x.kind : Int)) (b := (y.kind : Int)) h1))
  refine h2.trans ?_
  congr 1
  rw [Bool.eq_iff_iff]
  simp only [Bool.and_eq_true, decide_eq_true_eq, and_true]
  rcases x with ⟨a1, a2, a3, a4, a5⟩
  rcases y with ⟨b1, b2, b3, b4, b5⟩
  simp only [Rd.mk.injEq]
  constructor
  · rintro ⟨h1, h2, h3, h4, h5⟩; exact ⟨h1, h2, by omega, h4, h5⟩
  · rintro ⟨h1, h2, h3, h4, h5⟩; exact ⟨h1, h2, by omega, h4, h5⟩
set_option maxHeartbeats 4000000 in
theorem same46 (hp : primAS T) (hf : T 46 = some f46) {h : Heap} (hr : Rdy h) {a b : Option Addr} {n c n2 c2 : Nat} {l k : List Rd} (s : RdS h (.slice a n c) l) (s2 : RdS h (.slice b n2 c2) k) (hn : n < 1000000) (hn2 : n2 < 1000000) : Pu T 46 [.slice a n c, .slice b n2 c2] h (.bool (decide (l = k))) := by
  refine .of hp hf hr rfl ?_
  obtain rfl := s.len
  obtain rfl := s2.len
  by_cases hlen : l.length = k.length
  · have m1 : numOp .neq (.int .i64 (l.length : Nat)) (.int .i64 (k.length : Nat)) = some (.bool false) := by rw [hlen]; exact m_neqF rfl
    refine y4 ?_; refine yM ?_; refine y3 ?_; refine wE_seq ?_; refine y4 ?_; refine yM ?_; refine yD ?_; refine yM ?_
    refine yD ?_; refine wO_val (a_num (by exact rfl) (by exact rfl) (by with_reducible assumption)) ?_; refine y3 ?_; refine yX ?_; refine wE_skip ?_; refine kS_n ?_; refine wE_seq ?_; refine y4 ?_
    refine yM ?_; refine y3 ?_; refine wE_block ?_
    refine wE_loop (fun m e ds h' => ∃ i : Nat, i ≤ l.length ∧ m = l.length - i ∧ e = [(0, .slice a l.length c), (1, .slice b k.length c2), (5, .int .i64 (i : Nat))] ∧ ds = [] ∧ h = h' ∧ l.take i = k.take i)
      ⟨0, Nat.zero_le _, rfl, rfl, rfl, rfl, rfl⟩ ?_
    rintro m e ds _ ⟨i, hin, rfl, rfl, rfl, rfl, hi⟩
    by_cases hlt : i < l.length
    · obtain ⟨x, hx⟩ : ∃ x, l[i]? = some x := ⟨l[i], List.getElem?_eq_getElem hlt⟩
      obtain ⟨y, hy⟩ : ∃ y, k[i]? = some y := ⟨k[i]'(by omega), List.getElem?_eq_getElem _⟩
      have hX := s.ok x (List.mem_of_getElem? hx)
      have hY := s2.ok y (List.mem_of_getElem? hy)
      obtain ⟨b1, o1, vs1, own1, t1, rfl, e1, e2, _, _⟩ := s.elem hx
      obtain ⟨b2, o2, vs2, own2, t2, rfl, j1, j2, _, _⟩ := s2.elem hy
      have k1 := e2.all
      have k2 := rdL_llen hX
      have k3 := j2.all
      have k4 := rdL_llen hY
      have Ls := rd_leaves hX hY
      have hT1 : l.take (i + 1) = l.take i ++ [x] := by
        obtain ⟨q, rfl⟩ := List.getElem?_eq_some_iff.1 hx
        exact List.take_succ_eq_append_getElem q
      have hT2 : k.take (i + 1) = k.take i ++ [y] := by
        obtain ⟨q, rfl⟩ := List.getElem?_eq_some_iff.1 hy
        exact List.take_succ_eq_append_getElem q
      by_cases hxy : x = y
      · rw [decide_eq_true hxy] at Ls
        refine wE_seq ?_; refine y4 ?_; refine yM ?_; refine yM ?_; refine yD ?_; refine yt ?_; refine y3 ?_
        refine yY ?_; refine wE_skip ?_; refine kS_n ?_; refine wE_seq ?_; refine wE_block ?_; refine wE_seq ?_; refine wE_draw ?_; refine qM ?_; refine qM ?_
        refine wD_quiet rfl rfl rfl (by exact rfl) (by exact rfl) (by exact rfl) (a_iaddrS (by exact rfl) (by exact rfl) (by omega)) ?_; refine wD_quiet rfl rfl rfl (by exact rfl) (by exact rfl) (by exact rfl) (a_loadN (by exact rfl) (by assumption) (by assumption) (by assumption)) ?_; refine qM ?_
        refine qM ?_; refine wD_quiet rfl rfl rfl (by exact rfl) (by exact rfl) (by exact rfl) (a_iaddrS (by exact rfl) (by exact rfl) (by omega)) ?_; refine wD_quiet rfl rfl rfl (by exact rfl) (by exact rfl) (by exact rfl) (a_loadN (by exact rfl) (by assumption) (by assumption) (by assumption)) ?_
        refine wD_quiet rfl rfl rfl (by exact rfl) (by exact rfl) (by exact rfl) (a_agg (by exact rfl) (by exact rfl) (by assumption)) ?_; refine wD_nil ?_; refine y1 ?_; refine kS_n ?_; refine yX ?_; refine wE_skip ?_; refine kB_n ?_; refine kS_n ?_; refine wE_region ?_
        refine yM ?_; refine yinc ?_; refine yM ?_; refine y3 ?_
        exact ⟨l.length - (i + 1), by omega, i + 1, by omega, rfl, rfl, rfl, rfl, by rw [hT1, hT2, hi, hxy]⟩
      · rw [decide_eq_false hxy] at Ls
        have : l ≠ k := by
          intro q
          rw [q, hy] at hx
          exact hxy (Option.some.inj hx).symm
        rw [decide_eq_false this]
        refine wE_seq ?_; refine y4 ?_; refine yM ?_; refine yM ?_; refine yD ?_; refine yt ?_; refine y3 ?_
        refine yY ?_; refine wE_skip ?_; refine kS_n ?_; refine wE_seq ?_; refine wE_block ?_; refine wE_seq ?_; refine wE_draw ?_; refine qM ?_; refine qM ?_
        refine wD_quiet rfl rfl rfl (by exact rfl) (by exact rfl) (by exact rfl) (a_iaddrS (by exact rfl) (by exact rfl) (by omega)) ?_; refine wD_quiet rfl rfl rfl (by exact rfl) (by exact rfl) (by exact rfl) (a_loadN (by exact rfl) (by assumption) (by assumption) (by assumption)) ?_; refine qM ?_
        refine qM ?_; refine wD_quiet rfl rfl rfl (by exact rfl) (by exact rfl) (by exact rfl) (a_iaddrS (by exact rfl) (by exact rfl) (by omega)) ?_; refine wD_quiet rfl rfl rfl (by exact rfl) (by exact rfl) (by exact rfl) (a_loadN (by exact rfl) (by assumption) (by assumption) (by assumption)) ?_
        refine wD_quiet rfl rfl rfl (by exact rfl) (by exact rfl) (by exact rfl) (a_agg (by exact rfl) (by exact rfl) (by assumption)) ?_; refine wD_nil ?_; refine y1 ?_; refine kS_n ?_; refine yY ?_; refine y4 ?_; refine yM ?_; refine y3 ?_; refine wE_ret ?_; refine kB_r ?_; refine kS_r ?_; refine kS_r ?_; refine kB_r ?_; refine kS_r ?_
        exact endP_ret hr.log rfl rfl
    · obtain rfl : i = l.length := by omega
      rw [List.take_length, hlen, List.take_length] at hi
      rw [decide_eq_true hi]
      refine wE_seq ?_; refine y4 ?_; refine yM ?_; refine yM ?_; refine yD ?_; refine yf ?_; refine y3 ?_
      refine yX ?_; refine wE_exit ?_; refine kS_e ?_; refine kS_e ?_; refine kB_e ?_; refine kS_n ?_; refine y4 ?_; refine yM ?_; refine y3 ?_; refine wE_ret ?_
      exact endP_ret hr.log rfl rfl
  · have m1 : numOp .neq (.int .i64 (l.length : Nat)) (.int .i64 (k.length : Nat)) = some (.bool true) := m_neqT (by omega)
    rw [decide_eq_false (fun q => hlen (by rw [q]))]
    refine y4 ?_; refine yM ?_; refine y3 ?_; refine wE_seq ?_; refine y4 ?_; refine yM ?_; refine yD ?_; refine yM ?_
    refine yD ?_; refine wO_val (a_num (by exact rfl) (by exact rfl) (by with_reducible assumption)) ?_; refine y3 ?_; refine yY ?_; refine y4 ?_; refine yM ?_; refine y3 ?_; refine wE_ret ?_; refine kS_r ?_
    exact endP_ret hr.log rfl rfl
end Go.A.Pk
end
section
set_option maxRecDepth 100000
namespace Go.A.Pk
variable {T : Nat → Option AFunc}
open Classical in
noncomputable def pSd : List Value → Heap → Option (Value × Heap)
  | [], h => if Tab h then some (.bool true, h) else none
  | _, _ => none
theorem puSd {h : Heap} (hf : T 21 = some (.prim pSd)) (hg : Tab h) : Pu T 21 [] h (.bool true) := by
  refine ⟨_, _, ⟨1, fun n hn => ?_⟩, rfl, rfl⟩
  obtain ⟨k, rfl⟩ : ∃ k, n = k + 1 := ⟨n - 1, by omega⟩
  simp only [acall, hf, pSd, if_pos hg]
structure FnsL8 (T : Nat → Option AFunc) : Prop where
  p : primAS T
  fo : FnsFo T
  rf : FnsRf T
  f8 : T 8 = some f8
  f21 : T 21 = some (.prim pSd)
  f40 : T 40 = some f40
  f41 : T 41 = some f41
  f42 : T 42 = some f42
  f43 : T 43 = some f43
  f44 : T 44 = some f44
  f45 : T 45 = some f45
  f46 : T 46 = some f46
  f131 : T 131 = some f131
  f132 : T 132 = some f132
  f133 : T 133 = some f133
  f134 : T 134 = some f134
  f136 : T 136 = some f136
set_option maxHeartbeats 8000000 in
theorem law8 (F : FnsL8 T) {h : Heap} (hr : Rdy h) (hg : Tab h) (h2 : 2 < h.next) {a : Option Addr} {n c : Nat} {l : List Rd} (s : RdS h (.slice a n c) l) {r : Rd} (hR : IsR r) (day : Int) :
    Pu T 8 [.slice a n c, rdV r, .int .i64 day] h (.bool true) := by
  refine .of F.p F.f8 hr rfl ?_
  obtain rfl := s.len
  have k12 := rdL_all hR
  have l12 := rdL_llen hR
  have hrb : (h.push (.cells (cellsOf (rdV r)) true 1)).get h.next = some (.cells (rdL r) true 1) := z3 h _
  have W : WF (h.push (.cells (cellsOf (rdV r)) true 1)) := hr.wf.push _
  have x : Ext h (h.push (.cells (cellsOf (rdV r)) true 1)) := (Ext.refl h).push _
  have hnx : h.next < (h.push (.cells (cellsOf (rdV r)) true 1)).next := Nat.lt_succ_self _
  refine y4 ?_; refine yB ?_; refine yM ?_; refine y3 ?_
  generalize (h.push (.cells (cellsOf (rdV r)) true 1)) = H at *
  have hL : H.log = [] := x.log.trans hr.log
  have hgH : Tab H := hg.ext x h2
  have C0 : Pu T 21 [] { H with log := [] } (.bool true) := puSd F.f21 hgH
  by_cases g1 : 203 < l.length
  · refine wE_seq ?_; refine y4 ?_; refine yM ?_; refine yD ?_; refine yt ?_; refine yM ?_; refine yO ?_; refine yM ?_; refine yO ?_
    refine yD ?_; refine yO ?_; refine yf ?_; refine yT ?_; refine yM ?_; refine yO ?_; refine yM ?_; refine yO ?_
    refine yD ?_; refine yO ?_; refine yt ?_; refine yU ?_; refine y3 ?_; refine yY ?_
    refine y4 ?_
    refine yC ?_
    refine FW.pu C0 ?_
    refine yM ?_; refine y3 ?_; refine wE_ret ?_; refine kS_r ?_
    exact endP_ret hL rfl rfl
  have hn : l.length < 1000000 := by omega
  by_cases g2 : 40 < l.length ∧ l.length ≤ 200
  · obtain ⟨g2, g3⟩ := g2
    refine wE_seq ?_; refine y4 ?_; refine yM ?_; refine yD ?_; refine yt ?_; refine yM ?_; refine yO ?_; refine yM ?_; refine yO ?_
    refine yD ?_; refine yO ?_; refine yt ?_; refine yT ?_; refine yM ?_; refine yP ?_; refine yP ?_; refine yP ?_
    refine yT ?_; refine y3 ?_; refine yY ?_; refine y4 ?_
    refine yC ?_
    refine FW.pu C0 ?_
    refine yM ?_; refine y3 ?_; refine wE_ret ?_; refine kS_r ?_
    exact endP_ret hL rfl rfl
  have K1 := check40 F.fo F.f40 (.of W) ((s.ext x).log []) hn
  have K2 := check41 F.rf F.f41 (.of W) ((s.ext x).log []) hn
  have K3 := append42 F.fo F.f40 F.f131 F.f42 (.of W) ((s.ext x).log []) hn hR
  rw [chkR_law] at K1
  rw [appE_law] at K3
  refine wE_cutE (E := [(0, .slice a l.length c), (2, .int .i64 day), (4, .pointer (some ⟨h.next, 0, none⟩)), (31, .bool false)]) (H := H) ?_ ?_
  · clear K1 K2 K3
    by_cases g3 : 40 < l.length
    · have g4 : 200 < l.length := by omega
      refine y4 ?_; refine yM ?_; refine yD ?_; refine yt ?_; refine yM ?_; refine yO ?_; refine yM ?_; refine yO ?_; refine yD ?_
      refine yO ?_; refine yf ?_; refine yT ?_; refine yM ?_; refine yO ?_; refine yM ?_; refine yO ?_; refine yD ?_; refine yO ?_
      refine yf ?_; refine yU ?_; refine y3 ?_; refine yX ?_; refine wE_skip ?_
      exact ⟨rfl, rfl, rfl, rfl⟩
    · refine y4 ?_; refine yM ?_; refine yD ?_; refine yf ?_; refine yM ?_; refine yP ?_; refine yP ?_; refine yP ?_
      refine yU ?_; refine yM ?_; refine yO ?_; refine yM ?_; refine yO ?_; refine yD ?_; refine yO ?_; refine yf ?_
      refine yU ?_; refine y3 ?_; refine yX ?_; refine wE_skip ?_
      exact ⟨rfl, rfl, rfl, rfl⟩
  refine y4 ?_; refine yM ?_
  refine yC ?_
  refine FW.pu K1 ?_
  clear K1
  unfold ckV at K2 ⊢
  generalize hp1 : (chkR refR l).1 = p1 at K2 ⊢
  generalize hp2 : (chkR refR l).2 = p2 at K2 ⊢
  refine yM ?_; refine yE ?_; refine yE ?_; refine yM ?_; refine yM ?_; refine y3 ?_; refine y4 ?_; refine yM ?_
  refine yC ?_
  refine FW.pu K2 ?_
  clear K2
  refine yM ?_; refine yE ?_; refine yE ?_; refine yM ?_; refine yM ?_; refine y3 ?_; refine y4 ?_; refine yM ?_; refine wO_val (a_loadN (by exact rfl) (by assumption) (by assumption) (by assumption)) ?_
  refine yC ?_
  generalize he : appE refR l r = e0 at K3
  refine FW.al K3 (fun v h' m q => by obtain ⟨x, q1, q2⟩ := q; exact ⟨x, q1, q2.log m⟩) ?_
  rintro _ H1 x1 ⟨v1, rfl, s1⟩
  clear K3
  have W1 := x1.wf W
  have hL1 := x1.log.trans hL
  have hrb1 := (x1.old _ hnx).trans hrb
  have ey1 := x.trans x1
  have K4 := append43 F.rf F.f41 F.f43 (.of W1) ((s.ext ey1).log []) hn hR
  rw [he] at K4
  refine yM ?_; refine yE ?_; refine yE ?_; refine yM ?_; refine yM ?_; refine y3 ?_; refine y4 ?_; refine yM ?_; refine wO_val (a_loadN (by exact rfl) (by assumption) (by assumption) (by assumption)) ?_
  refine yC ?_
  refine FW.al K4 (fun v h' m q => by obtain ⟨x, q1, q2⟩ := q; exact ⟨x, q1, q2.log m⟩) ?_
  rintro _ H2 x2 ⟨v2, rfl, s2⟩
  clear K4
  have W2 := x2.wf W1
  have hL2 := x2.log.trans hL1
  have hnx1 : h.next < H1.next := Nat.lt_of_lt_of_le hnx x1.next
  have hrb2 := (x2.old _ hnx1).trans hrb1
  have ey2 := ey1.trans x2
  have K5 := counting44 F.fo F.f40 F.f131 F.f132 F.f133 F.f134 F.f44 (.of W2) ((s.ext ey2).log []) hn day
  rw [chkR_law, cnt_law, hp2] at K5
  refine yM ?_; refine yE ?_; refine yE ?_; refine yM ?_; refine yM ?_; refine y3 ?_; refine y4 ?_; refine yM ?_; refine yM ?_
  refine yC ?_
  refine FW.al K5 (fun v h' m q => by obtain ⟨x, q1, q2⟩ := q; exact ⟨x, q1, q2.log m⟩) ?_
  rintro _ H3 x3 ⟨v3, rfl, s3⟩
  clear K5
  have W3 := x3.wf W2
  have hL3 := x3.log.trans hL2
  have hnx2 : h.next < H2.next := Nat.lt_of_lt_of_le hnx1 x2.next
  have hrb3 := (x3.old _ hnx2).trans hrb2
  have ey3 := ey2.trans x3
  have K6 := counting45 F.rf F.f41 F.f136 F.f45 (.of W3) ((s.ext ey3).log []) hn day
  rw [hp2] at K6
  refine yM ?_; refine yE ?_; refine yE ?_; refine yM ?_; refine yM ?_; refine y3 ?_; refine y4 ?_; refine yM ?_; refine yM ?_
  refine yC ?_
  refine FW.al K6 (fun v h' m q => by obtain ⟨x, q1, q2⟩ := q; exact ⟨x, q1, q2.log m⟩) ?_
  rintro _ H4 x4 ⟨v4, rfl, s4⟩
  clear K6
  have W4 := x4.wf W3
  have hL4 := x4.log.trans hL3
  have hnx3 : h.next < H3.next := Nat.lt_of_lt_of_le hnx2 x3.next
  have hrb4 := (x4.old _ hnx3).trans hrb3
  have ey4 := ey3.trans x4
  have len1 : (if e0 = 0 then l ++ [r] else []).length < 1000000 := by split <;> simp; omega
  have len2 : (if p2 = 0 then cntR day l else []).length < 1000000 := by
    split
    · exact Nat.lt_of_le_of_lt (List.length_filter_le ..) hn
    · simp
  have s1' := ((s1.ext x2).ext x3).ext x4
  have s2' := (s2.ext x3).ext x4
  have s3' := s3.ext x4
  obtain ⟨a1, c1, rfl⟩ := s1.sl.form
  obtain ⟨a2, c2, rfl⟩ := s2.sl.form
  obtain ⟨a3, c3, rfl⟩ := s3.sl.form
  obtain ⟨a4, c4, rfl⟩ := s4.sl.form
  have hg4 : Tab H4 := hg.ext ey4 h2
  have C0' : Pu T 21 [] { H4 with log := [] } (.bool true) := puSd F.f21 hg4
  have M1 := same46 F.p F.f46 (.of W4) (s1'.log []) (s2'.log []) len1 len1
  have M2 := same46 F.p F.f46 (.of W4) (s3'.log []) (s4.log []) len2 len2
  have D1 := check47 F.fo.toFnsRd (.of W4) hR
  have D2 := check48 F.rf.toFnsRr (.of W4) hR
  rw [decide_eq_true rfl] at M1 M2
  generalize (if e0 = 0 then l ++ [r] else []).length = z1 at *
  generalize (if p2 = 0 then cntR day l else []).length = z2 at *
  clear s1 s2 s3 s4 s1' s2' s3'
  refine yM ?_; refine yE ?_; refine yE ?_; refine yM ?_; refine yM ?_; refine y3 ?_; refine wE_seq ?_
  refine wE_draw ?_
  refine qC ?_
  refine FW.puD C0' (by exact ra_nil) ?_
  refine qM ?_; refine qM ?_; refine qM ?_
  refine wD_quiet rfl rfl rfl (by exact rfl) (by exact rfl) (by exact rfl) (a_num (by exact rfl) (by exact rfl) (by exact m_eqlT (by omega))) ?_; refine wD_quiet rfl rfl rfl (by exact rfl) (by exact rfl) (by exact rfl) (a_pickT (by exact rfl) (by exact rfl)) ?_; refine qM ?_
  refine qM ?_; refine qM ?_; refine wD_quiet rfl rfl rfl (by exact rfl) (by exact rfl) (by exact rfl) (a_num (by exact rfl) (by exact rfl) (by exact m_eqlT (by omega))) ?_
  refine wD_quiet rfl rfl rfl (by exact rfl) (by exact rfl) (by exact rfl) (a_pickT (by exact rfl) (by exact rfl)) ?_; refine qM ?_; refine qM ?_
  refine qM ?_; refine wD_quiet rfl rfl rfl (by exact rfl) (by exact rfl) (by exact rfl) (a_num (by exact rfl) (by exact rfl) (by exact m_eqlT (by omega))) ?_; refine wD_quiet rfl rfl rfl (by exact rfl) (by exact rfl) (by exact rfl) (a_pickT (by exact rfl) (by exact rfl)) ?_
  refine qM ?_; refine qM ?_; refine qM ?_
  refine wD_quiet rfl rfl rfl (by exact rfl) (by exact rfl) (by exact rfl) (a_num (by exact rfl) (by exact rfl) (by exact m_eqlT (by omega))) ?_; refine wD_quiet rfl rfl rfl (by exact rfl) (by exact rfl) (by exact rfl) (a_pickT (by exact rfl) (by exact rfl)) ?_; refine qM ?_
  refine qM ?_; refine qM ?_
  refine qC ?_
  refine FW.puD M1 (by apply ra_dropC rfl; apply ra_dropC rfl; apply ra_dropC rfl; apply ra_dropC rfl; apply ra_dropC rfl; apply ra_dropC rfl; apply ra_dropC rfl; apply ra_dropC rfl; apply ra_dropC rfl; apply ra_dropC rfl; apply ra_dropC rfl; apply ra_dropC rfl; apply ra_dropC rfl; apply ra_dropC rfl; apply ra_dropC rfl; apply ra_dropC rfl; apply ra_dropC rfl; apply ra_dropC rfl; apply ra_dropC rfl; apply ra_dropC rfl; apply ra_dropC rfl; apply ra_dropC rfl; apply ra_dropC rfl; exact ra_nil) ?_
  refine wD_quiet rfl rfl rfl (by exact rfl) (by exact rfl) (by exact rfl) (a_pickT (by exact rfl) (by exact rfl)) ?_; refine qM ?_; refine qM ?_
  refine qM ?_
  refine qC ?_
  refine FW.puD M2 (by apply ra_dropC rfl; apply ra_dropC rfl; apply ra_dropC rfl; apply ra_dropC rfl; exact ra_nil) ?_
  refine wD_quiet rfl rfl rfl (by exact rfl) (by exact rfl) (by exact rfl) (a_pickT (by exact rfl) (by exact rfl)) ?_; refine qM ?_; refine wD_quiet rfl rfl rfl (by exact rfl) (by exact rfl) (by exact rfl) (a_loadN (by exact rfl) (by assumption) (by assumption) (by assumption)) ?_
  refine wD_quiet rfl rfl rfl (by exact rfl) (by exact rfl) (by exact rfl) (a_loadN (by exact rfl) (by assumption) (by assumption) (by assumption)) ?_
  refine qC ?_
  refine FW.puD D1 (by apply ra_keepC rfl (rq_quiet rfl (a_loadN (by exact rfl) (by assumption) (by assumption) (by assumption)) (by exact sv_rd _)) rfl; apply ra_dropC rfl; apply ra_dropC rfl; apply ra_dropC rfl; exact ra_nil) ?_
  skip
  refine qC ?_
  refine FW.puD D2 (by apply ra_dropC rfl; exact ra_nil) ?_
  refine wD_quiet rfl rfl rfl (by exact rfl) (by exact rfl) (by exact rfl) (a_num (by exact rfl) (by exact rfl) (by exact m_eqlT (by omega))) ?_; refine wD_quiet rfl rfl rfl (by exact rfl) (by exact rfl) (by exact rfl) (a_pickT (by exact rfl) (by exact rfl)) ?_; refine qM ?_; refine wD_nil ?_
  refine y1 ?_; refine kS_n ?_; refine wE_ret ?_
  exact endP_ret hL4 rfl rfl
end Go.A.Pk
end
section
set_option maxRecDepth 100000
namespace Go.A.Pk
open Go Go.Proofs
theorem h0_eq : StkQ.h0 = oneH 2 (debL.map fun n => .int .u8 (n : Nat)) 1000 := by kernel_rfl
theorem ok21 : Entry Tryz.prog 21 (.prim pSd) := .prim (primT_ok sound (g := 2) (n := 1000) (vs := debL.map fun n => .int .u8 (n : Nat)) Tryz.func21 (of_decide_eq_true (by kernel_rfl)) (by kernel_rfl) globs_le (by decide) (by kernel_rfl) (by kernel_rfl) fun args v h h' hp => by
  unfold pSd at hp
  split at hp
  · split at hp
    · rename_i hT
      cases hp
      refine ⟨rfl, hT, fun a ha => (nomatch ha), rfl, ?_⟩
      rw [← h0_eq]
      exact StkQ.run
    · cases hp
  · cases hp)
end Go.A.Pk
end
section
namespace Go.A
open Go.ChangeShapes Go.WideShapes Go.ChangeAt Go.RowKit
section
variable {H : Type} {enc : TypeId × Value → H} {P : Program}
theorem trodAll_stays (hl : laidOutB P = true) {W W' : World} (hb : Below W.heap.size W W') : ∀ {ts : List TypeId} {vs : List Value} {ds : List (DataW H)} {ps : List MemPlace}, (∀ t ∈ ts, P.readableRec t = true ∧ t < P.types.size) → DataW.TrodAll enc P W 0 (fun _ => true) true ts vs ds ps →
    (∀ x ∈ ps, x.block < W.heap.size) → DataW.TrodAll enc P W' 0 (fun b => decide (b < W.heap.size)) true ts vs ds ps
  | [], vs, ds, ps, _, h, _ => by
    obtain ⟨rfl, rfl, rfl⟩ := trodAll_nil h
    exact trodAll_mk0
  | t :: ts, vs, ds, ps, hr, h, hlt => by
    obtain ⟨v, vs', d, ds', p, q, rfl, rfl, rfl, hd, hrest⟩ := trodAll_cons h
    have h1 := hr t (List.mem_cons_self ..)
    exact ⟨p, q, Below.trod hl h1.1 h1.2 hd hb fun x hx => hlt x (List.mem_append_left _ hx), trodAll_stays hl hb (fun t ht => hr t (List.mem_cons_of_mem _ ht)) hrest fun x hx => hlt x (List.mem_append_right _ hx), rfl⟩
theorem law_post {f : Func} {s : ChangeSpec} {W W' : World} {args : Array Value} {ds gs : List (DataW H)} {before : List MemPlace} {tb : TypeId} (hW : DataW.Whole enc P f.params.toList s.vars false W args.toList ds gs before) (hv : s.vars = [])
    (hfn : (s.fn H ds).results = [.lit (.bool true)] ∧ (s.fn H ds).args = ds ∧ (s.fn H ds).vars = []) (hl : laidOutB P = true) (hr : ∀ t ∈ f.params.toList, P.readableRec t = true ∧ t < P.types.size) (hres : f.resultTypes = #[tb]) (htb : P.underlying tb = some .bool) (hb : Below W.heap.size W W') :
    s.post enc P f false true false false W args (.bool true) W' := by
  have hW' := hW
  obtain ⟨p, q, hA, hV, hpq, hz, hn⟩ := hW
  rw [hv] at hV
  obtain ⟨rfl, rfl⟩ := trodVars_none hV
  have hbp : before = p := by simpa using hpq
  subst hbp
  obtain ⟨h1, h2, h3⟩ := hfn
  have hlt : ∀ x ∈ before, x.block < W.heap.size := fun x hx => by simpa using hW'.lt x hx
  refine ⟨ds, [], before, [], before, [], hW', ?_, ?_, ?_, hb.frame _, fun h => by cases h⟩
  · rw [List.append_nil, h1, hres]
    exact trodAll_cons_mk (shut_bool htb _) trodAll_mk0
  · rw [List.append_nil, h2]
    exact trodAll_stays hl hb hr hA hlt
  · rw [List.append_nil, h3, hv]
    rfl
end
end Go.A
end
section
set_option maxRecDepth 100000
namespace Go.A.Pk
open Go Go.Proofs Go.Joins Go.ChangeShapes Go.WideShapes Go.RowKit Go.Deep
inductive CellsAt (W : World) (sz : Nat) : Value → Nat → List Value → Prop
  | nil : CellsAt W sz (.slice none 0 0) 0 []
  | empty {b o cap c el fz} : W.heap[b]? = some (.cells c el fz) → cap < UNK → CellsAt W sz (.slice (some ⟨b, o, none⟩) 0 cap) 0 []
  | full {b o cap n c el fz} {cs : List Value} : W.heap[b]? = some (.cells c el fz) → n ≠ 0 → cs.length = n * sz → 0 < sz → n ≤ cap → cap < UNK → (∀ j, j < n * sz → c[o + j]? = cs[j]?) → (∀ x ∈ cs, noRef x = true) → CellsAt W sz (.slice (some ⟨b, o, none⟩) n cap) n cs
structure Ob where
  vs : List Value
  sz : Nat
  b : Nat
  d : Nat
  e : Nat
def obsL : Nat → List Ob → List (Nat × AObj)
  | _, [] => []
  | n, o :: l => (n, .cells o.vs false o.sz) :: obsL (n + 1) l
abbrev Gl := List (Nat × List Value)
def glL (G : Gl) (l : List (Nat × AObj)) : List (Nat × AObj) := match G with
  | [] => l
  | (g, vs) :: G => (g, .cells vs false 1) :: glL G l
def glM (G : Gl) (f : Mu) : Mu := match G with
  | [] => f
  | (g, vs) :: G => fun x => if x = g then some ⟨g, 0, vs.length, 1⟩ else glM G f x
def obH (G : Gl) (l : List Ob) : Heap := ⟨glL G (obsL 1000 l), 1000 + l.length, []⟩
def obM (G : Gl) (l : List Ob) : Mu := glM G fun x => if 1000 ≤ x then (l[x - 1000]?).map fun o => ⟨o.b, o.d, o.e, o.sz⟩ else none
structure ObOk (W : World) (μ : Mu) (o : Ob) : Prop where
  ok : ∃ c el fz, W.heap[o.b]? = some (.cells c el fz) ∧ o.d + o.vs.length ≤ o.e ∧ o.e ≤ c.size ∧ ∀ i, i < o.vs.length → ∃ v', c[o.d + i]? = some v' ∧ VR μ (gv o.vs i) v'
theorem obsL_get : ∀ (l : List Ob) (n x : Nat), getO (obsL n l) x = if n ≤ x then (l[x - n]?).map fun o => .cells o.vs false o.sz else none
  | [], n, x => by simp [obsL, getO]
  | o :: l, n, x => by
    simp only [obsL, getO, cond_eq_ite, beq_eq, decide_eq_true_eq]
    by_cases hx : n = x
    · subst hx
      rw [if_pos rfl, if_pos (Nat.le_refl _), Nat.sub_self]
      rfl
    · rw [if_neg hx, obsL_get l (n + 1) x]
      by_cases h1 : n ≤ x
      · rw [if_pos h1, if_pos (by omega), show x - n = (x - (n + 1)) + 1 by omega, List.getElem?_cons_succ]
      · rw [if_neg h1, if_neg (by omega)]
structure GlOk (W : World) (G : Gl) : Prop where
  ok : ∀ q ∈ G, q.1 < Tryz.prog.globals.size ∧ (∃ t fz, W.heap[q.1]? = some (.cells q.2.toArray t fz)) ∧ ∀ v ∈ q.2, noRef v = true
  nd : (G.map (·.1)).Nodup
theorem glL_get (G : Gl) (l : List (Nat × AObj)) (x : Nat) : (∃ vs, (x, vs) ∈ G ∧ getO (glL G l) x = some (.cells vs false 1)) ∨ ((∀ vs, (x, vs) ∉ G) ∧ getO (glL G l) x = getO l x) := by
  induction G with
  | nil => exact .inr ⟨fun vs h => (nomatch h), rfl⟩
  | cons q G ih =>
    obtain ⟨g, vs⟩ := q
    by_cases hx : x = g
    · subst hx
      refine .inl ⟨vs, List.mem_cons_self, ?_⟩
      simp [glL, getO]
    · have e : getO (glL ((g, vs) :: G) l) x = getO (glL G l) x := by
        simp only [glL, getO, cond_eq_ite, beq_eq, decide_eq_true_eq, if_neg (Ne.symm hx)]
      rw [e]
      rcases ih with ⟨us, h1, h2⟩ | ⟨h1, h2⟩
      · exact .inl ⟨us, List.mem_cons_of_mem _ h1, h2⟩
      · exact .inr ⟨fun us h => by
          rcases List.mem_cons.1 h with h | h
          · cases h; exact hx rfl
          · exact h1 us h, h2⟩
theorem glM_get {G : Gl} (hn : (G.map (·.1)).Nodup) (f : Mu) (x : Nat) : (∀ vs, (x, vs) ∈ G → glM G f x = some ⟨x, 0, vs.length, 1⟩) ∧ ((∀ vs, (x, vs) ∉ G) → glM G f x = f x) := by
  induction G with
  | nil => exact ⟨fun vs h => by (cases h), fun _ => rfl⟩
  | cons q G ih =>
    obtain ⟨g, us⟩ := q
    rw [List.map_cons, List.nodup_cons] at hn
    obtain ⟨i1, i2⟩ := ih hn.2
    refine ⟨fun vs h => ?_, fun h => ?_⟩
    · rcases List.mem_cons.1 h with h | h
      · cases h
        simp [glM]
      · have : x ≠ g := fun e => hn.1 (List.mem_map.2 ⟨(x, vs), h, e⟩)
        simp only [glM, if_neg this]
        exact i1 vs h
    · have : x ≠ g := fun e => h us (by rw [e]; exact List.mem_cons_self)
      simp only [glM, if_neg this]
      exact i2 fun vs hv => h vs (List.mem_cons_of_mem _ hv)
theorem glob1000 {n : Nat} (h : n < Tryz.prog.globals.size) : n < 1000 := by
  have := globs_le; omega
theorem obH_get {W : World} {G : Gl} (hG : GlOk W G) (l : List Ob) (x : Nat) (h : 1000 ≤ x) : (obH G l).get x = (l[x - 1000]?).map fun o => .cells o.vs false o.sz := by
  show getO (glL G (obsL 1000 l)) x = _
  rcases glL_get G (obsL 1000 l) x with ⟨vs, h1, _⟩ | ⟨_, h2⟩
  · have := glob1000 (hG.ok _ h1).1
    simp only at this; omega
  · rw [h2, obsL_get, if_pos h]
theorem obM_get {W : World} {G : Gl} (hG : GlOk W G) (l : List Ob) (x : Nat) (h : 1000 ≤ x) : obM G l x = (l[x - 1000]?).map fun o => ⟨o.b, o.d, o.e, o.sz⟩ := by
  unfold obM
  rw [(glM_get hG.nd _ x).2 fun vs hv => by have := glob1000 (hG.ok _ hv).1; simp only at this; omega, if_pos h]
theorem obH_gl {W : World} {G : Gl} (hG : GlOk W G) (l : List Ob) {g : Nat} {vs : List Value} (h : (g, vs) ∈ G) : (obH G l).get g = some (.cells vs false 1) := by
  show getO (glL G (obsL 1000 l)) g = _
  rcases glL_get G (obsL 1000 l) g with ⟨us, h1, h2⟩ | ⟨h1, _⟩
  · rw [h2]
    have e : us = vs := by
      have q1 := (glM_get hG.nd (fun _ => none) g).1 _ h
      clear h2
      have hn := hG.nd
      clear hG q1
      induction G with
      | nil => cases h
      | cons q G ih =>
        rw [List.map_cons, List.nodup_cons] at hn
        rcases List.mem_cons.1 h with e1 | e1
        · rcases List.mem_cons.1 h1 with e2 | e2
          · rw [← e1] at e2; exact (Prod.mk.inj e2).2
          · exact (hn.1 (List.mem_map.2 ⟨_, e2, by rw [← e1]⟩)).elim
        · rcases List.mem_cons.1 h1 with e2 | e2
          · exact (hn.1 (List.mem_map.2 ⟨_, e1, by rw [← e2]⟩)).elim
          · exact ih e1 e2 hn.2
    rw [e]
  · exact (h1 vs h).elim
theorem obH_some {W : World} {G : Gl} (hG : GlOk W G) {l : List Ob} {x : Nat} {a : AObj} (h : (obH G l).get x = some a) : (∃ vs, (x, vs) ∈ G ∧ a = .cells vs false 1 ∧ obM G l x = some ⟨x, 0, vs.length, 1⟩) ∨ (1000 ≤ x ∧ ∃ o, l[x - 1000]? = some o ∧ a = .cells o.vs false o.sz ∧ obM G l x = some ⟨o.b, o.d, o.e, o.sz⟩) := by
  have h' : getO (glL G (obsL 1000 l)) x = some a := h
  rcases glL_get G (obsL 1000 l) x with ⟨vs, h1, h2⟩ | ⟨h1, h2⟩
  · rw [h2] at h'
    cases h'
    exact .inl ⟨vs, h1, rfl, (glM_get hG.nd _ x).1 vs h1⟩
  · rw [h2, obsL_get] at h'
    split at h'
    · rename_i h8
      cases hl : l[x - 1000]? with
      | none => rw [hl] at h'; cases h'
      | some o =>
        rw [hl] at h'; cases h'
        exact .inr ⟨h8, o, rfl, rfl, by rw [obM_get hG l x h8, hl]; rfl⟩
    · cases h'
theorem obM_some {W : World} {G : Gl} (hG : GlOk W G) {l : List Ob} {x : Nat} {k : Blk} (h : obM G l x = some k) : (∃ vs, (x, vs) ∈ G ∧ k = ⟨x, 0, vs.length, 1⟩) ∨ (1000 ≤ x ∧ ∃ o, l[x - 1000]? = some o ∧ k = ⟨o.b, o.d, o.e, o.sz⟩) := by
  by_cases hg : ∃ vs, (x, vs) ∈ G
  · obtain ⟨vs, hv⟩ := hg
    have := (glM_get hG.nd (fun x => if 1000 ≤ x then (l[x - 1000]?).map fun o => (⟨o.b, o.d, o.e, o.sz⟩ : Blk) else none) x).1 vs hv
    exact .inl ⟨vs, hv, (Option.some.inj (this.symm.trans h)).symm⟩
  · have := (glM_get hG.nd (fun x => if 1000 ≤ x then (l[x - 1000]?).map fun o => (⟨o.b, o.d, o.e, o.sz⟩ : Blk) else none) x).2 fun vs hv => hg ⟨vs, hv⟩
    have h := this.symm.trans h
    split at h
    · rename_i h8
      cases hl : l[x - 1000]? with
      | none => rw [hl] at h; cases h
      | some o => rw [hl] at h; cases h; exact .inr ⟨h8, o, rfl, rfl⟩
    · cases h
theorem R.obs {W : World} {G : Gl} (hG : GlOk W G) {l : List Ob} (H : ∀ o ∈ l, ObOk W (obM G l) o) : R Tryz.prog (obM G l) (obH G l) W := by
  refine ⟨Nat.le_trans globs_le (Nat.le_add_right _ _), fun g o hgs hx => ?_, fun x o hx => ?_, fun x o hx => ?_, fun x k hk => ?_, fun x y o o' k k' hne hx hy _ _ hk hk' _ => ?_⟩
  · rcases obH_some hG hx with ⟨vs, h1, rfl, h3⟩ | ⟨h8, _⟩
    · obtain ⟨_, ⟨t, fz, hw⟩, _⟩ := hG.ok _ h1
      refine ⟨_, h3, rfl, rfl, fun _ _ c' t' fz' hc' => ?_⟩
      rw [hw] at hc'
      cases hc'
      show vs.length = vs.toArray.size
      simp
    · have := glob1000 hgs; omega
  · rcases obH_some hG hx with ⟨vs, h1, rfl, h3⟩ | ⟨h8, ob, hl, rfl, h3⟩
    · obtain ⟨_, ⟨t, fz, hw⟩, hn⟩ := hG.ok _ h1
      intro k hk
      rw [h3] at hk
      cases hk
      refine ⟨rfl, vs.toArray, t, fz, hw, by show 0 + vs.length ≤ vs.length; omega, by simp, fun i hi => ?_, fun h => by cases h⟩
      refine ⟨vs[i], by show vs.toArray[0 + i]? = _; rw [Nat.zero_add, List.getElem?_toArray, List.getElem?_eq_getElem hi], ?_⟩
      have e : gv vs i = vs[i]'hi := by unfold gv; rw [lget_eq, List.getElem?_eq_getElem hi]; rfl
      rw [e]
      exact (VR.noRef (hn _ (List.getElem_mem _))).1
    · intro k hk
      rw [h3] at hk
      cases hk
      obtain ⟨c, el, fz, hW, h1, h2, hv⟩ := (H ob (List.mem_of_getElem? hl)).ok
      exact ⟨rfl, c, el, fz, hW, h1, h2, hv, fun h => by cases h⟩
  · rcases obH_some hG hx with ⟨vs, h1, rfl, h3⟩ | ⟨h8, ob, hl, rfl, h3⟩
    · have := glob1000 (hG.ok _ h1).1
      show x < 1000 + l.length
      simp only at this; omega
    · have := (List.getElem?_eq_some_iff.1 hl).1
      show x < 1000 + l.length
      omega
  · rcases obM_some hG hk with ⟨vs, h1, rfl⟩ | ⟨h8, ob, hl, rfl⟩
    · obtain ⟨hlt, ⟨t, fz, hw⟩, hn⟩ := hG.ok _ h1
      have := glob1000 hlt
      exact ⟨by show x < 1000 + l.length; simp only at this; omega, (Array.getElem?_eq_some_iff.1 hw).1⟩
    · have := (List.getElem?_eq_some_iff.1 hl).1
      obtain ⟨c, el, fz, hW, _⟩ := (H ob (List.mem_of_getElem? hl)).ok
      exact ⟨by show x < 1000 + l.length; omega, (Array.getElem?_eq_some_iff.1 hW).1⟩
  · rcases obH_some hG hx with ⟨vs, h1, rfl, h3⟩ | ⟨h8, ob, hl, rfl, h3⟩ <;> rcases obH_some hG hy with ⟨vs', h1', rfl, h3'⟩ | ⟨h8', ob', hl', rfl, h3'⟩ <;> exact ⟨rfl, rfl⟩
theorem obH_ro {W : World} {G : Gl} (hG : GlOk W G) {l : List Ob} : ∀ b o, (obH G l).get b = some o → o.ro = true ∨ o.live = false := fun b o hx => by
  rcases obH_some hG hx with ⟨vs, h1, rfl, h3⟩ | ⟨h8, ob, hl, rfl, h3⟩ <;> exact .inl rfl
theorem obsL_keys : ∀ (l : List Ob) (n : Nat), ((obsL n l).map (·.1)).Nodup ∧ ∀ b ∈ (obsL n l).map (·.1), n ≤ b ∧ b < n + l.length
  | [], n => ⟨by simp [obsL], fun b hb => by simp [obsL] at hb⟩
  | o :: l, n => by
    obtain ⟨h1, h2⟩ := obsL_keys l (n + 1)
    refine ⟨?_, fun b hb => ?_⟩
    · simp only [obsL, List.map_cons, List.nodup_cons]
      exact ⟨fun q => by have := (h2 n q).1; omega, h1⟩
    · simp only [obsL, List.map_cons, List.mem_cons] at hb
      rcases hb with rfl | hb
      · simp
      · have := h2 b hb
        simp only [List.length_cons]
        omega
theorem glL_keys : ∀ {G : Gl} {l : List (Nat × AObj)}, (glL G l).map (·.1) = G.map (·.1) ++ l.map (·.1)
  | [], l => rfl
  | (g, vs) :: G, l => by
    show g :: (glL G l).map (·.1) = _
    rw [glL_keys]; rfl
theorem obH_rdy {W : World} {G : Gl} (hG : GlOk W G) (l : List Ob) : Rdy (obH G l) := by
  refine ⟨⟨?_, fun b hb => ?_⟩, rfl⟩
  · show ((glL G (obsL 1000 l)).map (·.1)).Nodup
    rw [glL_keys, List.nodup_append]
    refine ⟨hG.nd, (obsL_keys l 1000).1, fun a ha b hb e => ?_⟩
    obtain ⟨q, hq, rfl⟩ := List.mem_map.1 ha
    have h1 := glob1000 (hG.ok _ hq).1
    have h2 := ((obsL_keys l 1000).2 b hb).1
    omega
  · have hb' : b ∈ (glL G (obsL 1000 l)).map (·.1) := hb
    rw [glL_keys] at hb'
    show b < 1000 + l.length
    rcases List.mem_append.1 hb' with q | q
    · obtain ⟨q, hq, rfl⟩ := List.mem_map.1 q
      have h1 := glob1000 (hG.ok _ hq).1
      omega
    · exact ((obsL_keys l 1000).2 b q).2
theorem CellsAt.lay {W : World} {G : Gl} (hG : GlOk W G) {sz n : Nat} {sl : Value} {cs : List Value} (s : CellsAt W sz sl n cs) : ∃ ob : List Ob, (∀ μ, ∀ o ∈ ob, ObOk W μ o) ∧ ∀ (L : List Ob) (i : Nat), (∀ o, ob[0]? = some o → L[i]? = some o) → ∃ a c, VR (obM G L) (.slice a n c) sl ∧ SliceOf (obH G L) sz (.slice a n c) n cs ∧ c < UNK := by
  cases s with
  | nil => exact ⟨[], (fun _ o ho => by cases ho), fun L i _ => ⟨none, 0, .sliceN _ _, .nil, by unfold UNK; omega⟩⟩
  | @empty b o cap c el fz hW hc =>
    refine ⟨[⟨[], sz, b, 0, 0⟩], fun μ o' ho => ?_, fun L i hL => ?_⟩
    · rw [List.mem_singleton.1 ho]
      exact ⟨c, el, fz, hW, Nat.le_refl _, Nat.zero_le _, fun i hi => by cases hi⟩
    · have hi := hL _ rfl
      have hg : (obH G L).get (1000 + i) = some (.cells [] false sz) := by rw [obH_get hG _ _ (by omega), show 1000 + i - 1000 = i by omega, hi]; rfl
      have hm : obM G L (1000 + i) = some ⟨b, 0, 0, sz⟩ := by rw [obM_get hG _ _ (by omega), show 1000 + i - 1000 = i by omega, hi]; rfl
      have hlt := (List.getElem?_eq_some_iff.1 hi).1
      refine ⟨some ⟨1000 + i, o, none⟩, cap, ?_, .mem ⟨by show 1000 + i < 1000 + L.length; omega, ⟨[], false, sz, hg, ?_⟩, by simp⟩ (Nat.zero_le _), hc⟩
      · have := VR.slice (μ := obM G L) (b := 1000 + i) (o := o) (l := 0) (c := cap) (k := ⟨b, 0, 0, sz⟩) hm hc (Nat.zero_le _)
        simpa using this
      · rw [ldrop_eq, List.drop_nil]
        cases 0 * sz <;> rfl
  | @full b o cap _ c el fz _ hW hne hlen hsz hl hc hat hno =>
    have hpos : 0 < n * sz := Nat.mul_pos (Nat.pos_of_ne_zero hne) hsz
    have hsize : o + n * sz ≤ c.size := by
      have h1 := hat (n * sz - 1) (by omega)
      have h2 : cs[n * sz - 1]? = some (cs[n * sz - 1]'(by omega)) := List.getElem?_eq_getElem _
      rw [h2] at h1
      have := (Array.getElem?_eq_some_iff.1 h1).1
      omega
    refine ⟨[⟨cs, sz, b, o, o + n * sz⟩], fun μ o' ho => ?_, fun L i hL => ?_⟩
    · rw [List.mem_singleton.1 ho]
      refine ⟨c, el, fz, hW, by show o + cs.length ≤ o + n * sz; omega, hsize, fun i hi => ?_⟩
      have hi' : i < cs.length := hi
      have h2 : cs[i]? = some (cs[i]'hi') := List.getElem?_eq_getElem _
      refine ⟨_, (hat i (by omega)).trans h2, ?_⟩
      have e : gv cs i = cs[i]'hi' := by unfold gv; rw [lget_eq, h2]; rfl
      show VR μ (gv cs i) _
      rw [e]
      exact (VR.noRef (hno _ (List.getElem_mem _))).1
    · have hi := hL _ rfl
      have hg : (obH G L).get (1000 + i) = some (.cells cs false sz) := by rw [obH_get hG _ _ (by omega), show 1000 + i - 1000 = i by omega, hi]; rfl
      have hm : obM G L (1000 + i) = some ⟨b, o, o + n * sz, sz⟩ := by rw [obM_get hG _ _ (by omega), show 1000 + i - 1000 = i by omega, hi]; rfl
      have hlt := (List.getElem?_eq_some_iff.1 hi).1
      refine ⟨some ⟨1000 + i, 0, none⟩, cap, ?_, .mem ⟨by show 1000 + i < 1000 + L.length; omega, ⟨cs, false, sz, hg, ?_⟩, hlen⟩ hl, hc⟩
      · have := VR.slice (μ := obM G L) (b := 1000 + i) (o := 0) (l := n) (c := cap) (k := ⟨b, o, o + n * sz, sz⟩) hm hc hl
        simpa using this
      · rw [ltake_eq, ldrop_eq, List.drop_zero, List.take_of_length_le (by omega)]
theorem St.below {μ μ' : Mu} {h h' : Heap} {W W' : World} (s : St μ h W μ' h' W') (hro : ∀ b o, h.get b = some o → o.ro = true ∨ o.live = false) : Below W.heap.size W W' :=
  ⟨s.same.os, s.same.tape, s.same.out, s.le, fun r hr => s.keep r hr fun ⟨b, o, k, g1, g2, g3, _⟩ => by
    rcases hro b o g1 with q | q
    · rw [q] at g3; cases g3
    · rw [q] at g2; cases g2⟩
theorem laidG1 {W : World} {G : Gl} (hG : GlOk W G) {sz1 n1 : Nat} {s1 : Value} {c1 : List Value} (h1 : CellsAt W sz1 s1 n1 c1) : ∃ (h : Heap) (μ : Mu), R Tryz.prog μ h W ∧ (∀ b o, h.get b = some o → o.ro = true ∨ o.live = false) ∧ Rdy h ∧ 1000 ≤ h.next ∧ (∀ g vs, (g, vs) ∈ G → h.get g = some (.cells vs false 1)) ∧
    (∃ a c, VR μ (.slice a n1 c) s1 ∧ SliceOf h sz1 (.slice a n1 c) n1 c1 ∧ c < UNK) := by
  obtain ⟨o1, k1, q1⟩ := h1.lay hG
  exact ⟨obH G o1, obM G o1, R.obs hG fun o ho => k1 _ o ho, obH_ro hG, obH_rdy hG _, Nat.le_add_right _ _, fun g vs h => obH_gl hG _ h, q1 _ 0 fun o ho => ho⟩
end Go.A.Pk
end
section
set_option maxRecDepth 100000
namespace Go.A.Pk
open Go Go.Proofs Go.Joins Go.ChangeShapes Go.WideShapes Go.RowKit Go.Deep
section
variable {H : Type} {enc : TypeId × Value → H} {W : World} {base : Nat} {spare : Nat → Bool} {held : Bool}
theorem cells3 : Tryz.prog.cellsOf 3 = 1 := by kernel_rfl
theorem cells5 : Tryz.prog.cellsOf 5 = 1 := by kernel_rfl
theorem cells22 : Tryz.prog.cellsOf 22 = 1 := by kernel_rfl
theorem cells24 : Tryz.prog.cellsOf 24 = 8 := by kernel_rfl
theorem cells63 : Tryz.prog.cellsOf 63 = 12 := by kernel_rfl
theorem solid_cells {fuel : Nat} {cs : List Value} {x : DataW H × List MemPlace} (h : DataW.trod enc Tryz.prog W base spare held fuel 24 cs = some x) : ∃ pl, IsS pl ∧ cs = us pl := by
  obtain ⟨xs, m, _, _, hl, hxl, hg⟩ := DataW.trod_array Tryz.underlying24 h
  rw [cells24] at hl
  have key : ∀ i, i < 8 → ∃ n : Nat, n < U64 ∧ cs[i]? = some (.int .u64 (n : Int)) := fun i hi => by
    have hg := hg i hi
    rw [cells22] at hg
    have hx : xs[i]? = some xs[i] := List.getElem?_eq_getElem (by omega)
    rw [hx] at hg
    obtain ⟨z, hz, _, hw⟩ := DataW.trod_int Tryz.underlying22 hg
    have hb : 0 ≤ z ∧ z ≤ 18446744073709551615 := by
      simpa [Lit.wf, IntKind.min, IntKind.max, IntKind.signed, IntKind.bits] using hw
    obtain ⟨n, rfl⟩ := Int.eq_ofNat_of_zero_le hb.1
    refine ⟨n, by unfold U64; omega, ?_⟩
    have hz2 : (cs.drop (i * 1)).take 1 = [Value.int .u64 (n : Int)] := hz
    have hz' : ((cs.drop (i * 1)).take 1)[0]? = some (.int .u64 (n : Int)) := by rw [hz2]; rfl
    rw [List.getElem?_take_of_lt (by omega), List.getElem?_drop] at hz'
    simpa using hz'
  let f : Value → Nat := fun v => match v with | .int _ n => n.toNat | _ => 0
  refine ⟨cs.map f, ⟨by simpa using hl, fun x hx => ?_⟩, ?_⟩
  · obtain ⟨y, hy, rfl⟩ := List.mem_map.1 hx
    obtain ⟨i, hi, rfl⟩ := List.mem_iff_getElem.1 hy
    obtain ⟨n, hn, hk⟩ := key i (by omega)
    rw [List.getElem?_eq_getElem hi, Option.some.injEq] at hk
    rw [hk]; exact hn
  · apply List.ext_getElem?
    intro i
    by_cases hi : i < 8
    · obtain ⟨n, hn, hk⟩ := key i hi
      rw [hk]
      simp only [us, List.getElem?_map, hk, z7]
      rfl
    · rw [List.getElem?_eq_none (by omega), List.getElem?_eq_none (by rw [us_length, List.length_map]; omega)]
theorem reading_cells {fuel : Nat} {cs : List Value} {x : DataW H × List MemPlace} (h : DataW.trod enc Tryz.prog W base spare held fuel 63 cs = some x) : ∃ r : Rd, IsR r ∧ cs = rdL r := by
  obtain ⟨xs, n, _, hx, hcl, hlen, hg⟩ := DataW.trod_struct Tryz.underlying63 h
  rw [cells63] at hcl
  match cs, hcl with
  | [c0, c1, c2, c3, c4, c5, c6, c7, c8, c9, c10, c11], _ =>
    match xs, hlen with
    | [y0, y1, y2, y3, y4], _ =>
      have g0 : DataW.trod enc Tryz.prog W base spare held n 3 [c0] = some y0 := by have := hg 0 _ rfl; simpa [cells3] using this
      have g1 : DataW.trod enc Tryz.prog W base spare held n 3 [c1] = some y1 := by have := hg 1 _ rfl; simpa [cells3] using this
      have g2 : DataW.trod enc Tryz.prog W base spare held n 5 [c2] = some y2 := by have := hg 2 _ rfl; simpa [cells5] using this
      have g3 : DataW.trod enc Tryz.prog W base spare held n 24 [c3, c4, c5, c6, c7, c8, c9, c10] = some y3 := by have := hg 3 _ rfl; simpa [cells24] using this
      have g4 : DataW.trod enc Tryz.prog W base spare held n 3 [c11] = some y4 := by have := hg 4 _ rfl; simpa [cells3] using this
      obtain ⟨a0, h0, _⟩ := DataW.trod_int Tryz.underlying3 g0
      obtain ⟨a1, h1, _⟩ := DataW.trod_int Tryz.underlying3 g1
      obtain ⟨a2, h2, _, w2⟩ := DataW.trod_int Tryz.underlying5 g2
      obtain ⟨pl, hp, h3⟩ := solid_cells g3
      obtain ⟨a4, h4, _⟩ := DataW.trod_int Tryz.underlying3 g4
      cases h0; cases h1; cases h2; cases h4
      have hb : 0 ≤ a2 ∧ a2 ≤ 255 := by
        simpa [Lit.wf, IntKind.min, IntKind.max, IntKind.signed, IntKind.bits] using w2
      obtain ⟨k, rfl⟩ := Int.eq_ofNat_of_zero_le hb.1
      refine ⟨⟨a0, a1, k, pl, a4⟩, ⟨hp, by show k < 256; omega⟩, ?_⟩
      show _ = _ :: _ :: _ :: (us pl ++ [_])
      rw [← h3]; rfl
theorem open_reading {v : Value} {d : DataW H} {p : List MemPlace} (hv : Value.okWide Tryz.prog W .any base 63 v) (h : DataW.Trod enc Tryz.prog W 0 spare held 63 v d p) : ∃ r : Rd, IsR r ∧ v = rdV r := by
  obtain ⟨cs, rfl, _⟩ := okWide_struct Tryz.underlying63 hv
  obtain ⟨fuel, hf⟩ := h
  obtain ⟨r, hr, hk⟩ := reading_cells hf
  refine ⟨r, hr, ?_⟩
  have : cs = (rdL r).toArray := by rw [← hk]; simp [Value.cells]
  rw [this]; rfl
theorem add_eq (b o n : Nat) : (Addr.mk b o none).add n = ⟨b, o + n, none⟩ := by
  unfold Addr.add
  by_cases h : n = 0
  · rw [if_pos h, h, Nat.add_zero]
  · rw [if_neg h]
theorem rsL_get {l : List Rd} (hl : ∀ r ∈ l, IsR r) {i : Nat} {r : Rd} {j : Nat} (h : l[i]? = some r) (hj : j < 12) : (rsL l)[i * 12 + j]? = (rdL r)[j]? := by
  have hR := hl r (List.mem_of_getElem? h)
  have hlt := (List.getElem?_eq_some_iff.1 h).1
  have e : l = l.take i ++ r :: l.drop (i + 1) := by
    obtain ⟨q, rfl⟩ := List.getElem?_eq_some_iff.1 h
    rw [← List.drop_eq_getElem_cons q, List.take_append_drop]
  have hlen : (rsL (l.take i)).length = i * 12 := by rw [rsL_length fun r hr => hl r (List.mem_of_mem_take hr), List.length_take, Nat.min_eq_left (by omega)]
  conv => lhs; rw [e, rsL_app, rsL_cons]
  rw [List.getElem?_append_right (by omega), hlen, Nat.add_sub_cancel_left, List.getElem?_append_left (by rw [rdL_length hR]; exact hj)]
theorem noRef_rdL (r : Rd) : ∀ v ∈ rdL r, noRef v = true := by
  intro v hv
  simp only [rdL, us, List.mem_cons, List.mem_append, List.mem_map, List.not_mem_nil, or_false] at hv
  rcases hv with rfl | rfl | rfl | ⟨n, _, rfl⟩ | rfl <;> rfl
theorem noRef_rsL (l : List Rd) : ∀ v ∈ rsL l, noRef v = true := by
  intro v hv
  induction l with
  | nil => cases hv
  | cons r l ih =>
    rw [rsL_cons] at hv
    rcases List.mem_append.1 hv with q | q
    · exact noRef_rdL r v q
    · exact ih q
theorem scal_us : ∀ (pl : List Nat) (t : List Value), scalL t = true → scalL (us pl ++ t) = true
  | [], t, h => h
  | x :: pl, t, h => scal_us pl t h
theorem noRef_rdV (r : Rd) : noRef (rdV r) = true := by
  show flat (.agg (rdL r).toArray) = true
  simp only [flat]
  exact scal_us r.cells [.int .i64 r.of] rfl
instance : Inhabited Rd := ⟨⟨0, 0, 0, [], 0⟩⟩
def RdsAt (W : World) (v : Value) (l : List Rd) : Prop := CellsAt W 12 v l.length (rsL l) ∧ ∀ r ∈ l, IsR r
theorem open_readings {v : Value} {d : DataW H} {p : List MemPlace} (hv : Value.okWide Tryz.prog W .any base 54 v) (h : DataW.Trod enc Tryz.prog W 0 (fun _ => true) held 54 v d p) (hz : ∀ n ∈ d.weights Tryz.prog 54, n ≤ reachBytes) : ∃ l, RdsAt W v l := by
  have hcell : Cell.okWide Tryz.prog W .any base 54 v := by
    simpa only [Value.okWide, Tryz.underlying54] using hv
  obtain ⟨a0, len0, cap0, rfl⟩ := okWide_slice Tryz.underlying54 hv
  obtain ⟨fuel, hf⟩ := h
  have hf : DataW.trod enc Tryz.prog W 0 (fun _ => true) held fuel 54 [.slice a0 len0 cap0] = some (d, p) := by simpa [Value.cells] using hf
  rcases open_slice Tryz.underlying54 hf with ⟨h2, _⟩ | ⟨a, len, cap, m, n', D, Pl, h2, _, hl, hcap, hm, hy, hx⟩
  · cases h2
    exact ⟨[], .nil, fun x hx => by cases hx⟩
  · cases h2
    simp only [Cell.okWide, Cell.ok, Tryz.underlying54, World.has] at hcell
    obtain ⟨_, _, _, hspot, row, cells, hsh, _⟩ := hcell
    obtain ⟨b, o, sp⟩ := a
    simp only at hspot hsh
    subst hspot
    rw [if_pos rfl] at hm
    subst hm
    have e16 : Tryz.prog.bytesOf 63 = 96 := by kernel_rfl
    have hcapU : m * 96 ≤ reachBytes := by
      refine hz (m * 96) ?_
      cases hy
      simp only [DataW.weights, Tryz.underlying54, e16, List.length_map, List.length_range, show len0 + (m - len0) = m by omega]
      simp
    unfold reachBytes at hcapU
    obtain ⟨c, el, fz, hheap⟩ : ∃ c el fz, W.heap[b]? = some (.cells c el fz) := by
      unfold World.shape? at hsh
      split at hsh
      · rename_i c el fz he; exact ⟨c, el, fz, he⟩
      · cases hsh
    obtain ⟨f, hf⟩ := choose_lt (α := Rd) (n := len0) (p := fun i k => IsR k ∧ ∀ j, j < 12 → c[o + (i * 12 + j)]? = (rdL k)[j]?) (fun i hi => by
      obtain ⟨cs', hc, ht⟩ := hx i (by omega)
      obtain ⟨k, hk2, hk⟩ := reading_cells ht
      subst hk
      refine ⟨k, hk2, fun j hj => ?_⟩
      rw [cells63] at hc
      obtain ⟨_, _, hat⟩ := World.cells?_some hc
      have := hat j hj
      rw [add_eq, add_eq] at this
      rw [← this, Nat.add_assoc]
      unfold World.cell?
      simp only [hheap]
      rfl)
    by_cases h0 : len0 = 0
    · subst h0
      exact ⟨[], .empty hheap (by unfold UNK; omega), fun x hx => by cases hx⟩
    · have hlen : ((List.range len0).map f).length = len0 := by simp
      have hok : ∀ r ∈ (List.range len0).map f, IsR r := fun x hx => by
        obtain ⟨i, hi, rfl⟩ := List.mem_map.1 hx
        exact (hf i (List.mem_range.1 hi)).1
      refine ⟨(List.range len0).map f, ?_, hok⟩
      rw [hlen]
      refine .full hheap h0 (by rw [rsL_length hok, hlen]) (by omega) hl (by unfold UNK; omega) (fun j hj => ?_) (noRef_rsL _)
      have h5 : j / 12 < len0 := by omega
      have e1 : j = j / 12 * 12 + j % 12 := by omega
      have g1 := (hf (j / 12) h5).2 (j % 12) (by omega)
      have g2 := rsL_get hok (i := j / 12) (r := f (j / 12)) (j := j % 12) (by simp [h5]) (by omega)
      rw [← e1] at g1 g2
      rw [g1, g2]
end
def tabV : List Value := debL.map fun n => .int .u8 (n : Nat)
abbrev TabAt (W : World) : Prop := ∃ t fz, W.heap[2]? = some (.cells tabV.toArray t fz)
theorem TabAt.gl {W : World} (h : TabAt W) : GlOk W [(2, tabV)] := by
  refine ⟨fun q hq => ?_, by simp⟩
  rw [List.mem_singleton.1 hq]
  refine ⟨of_decide_eq_true (by kernel_rfl), h, fun v hv => ?_⟩
  simp only [tabV, List.mem_map] at hv
  obtain ⟨n, _, rfl⟩ := hv
  rfl
theorem tab_named : Tryz.prog.globalNamed "math/bits.deBruijn64tab" = some 2 := by kernel_rfl
theorem tab_type : (Tryz.prog.globals[2]?).map (·.type) = some 369 := by kernel_rfl
theorem tab_elem : ∃ e, Tryz.prog.underlying 369 = some (.array 64 e) ∧ Tryz.prog.underlying e = some (.int .u8) ∧ Tryz.prog.cellsOf e = 1 ∧ Tryz.prog.cellsOf 369 = 64 := ⟨_, Tryz.underlying369, by kernel_rfl, by kernel_rfl, by kernel_rfl⟩
theorem tab_at {W : World} {d : DataW Unit} {rest : List (String × DataW Unit)} (hd : d = Lib.tabData .u8 (debL.map fun n : Nat => (n : Int))) (h : laidMet Tryz.prog (("math/bits.deBruijn64tab", d) :: rest) W) : TabAt W := by
  subst hd
  obtain ⟨e, h1, h2, h3, h4⟩ := tab_elem
  have hT := Lib.tabIs_of_head tab_named tab_type h1 h2 h3 h4 h
  unfold Lib.TabIs World.var? at hT
  rw [tab_named] at hT
  simp only [Option.bind_some] at hT
  split at hT
  · rename_i c t fz he
    refine ⟨t, fz, he.trans ?_⟩
    have : c = tabV.toArray := by
      rw [Option.some.inj hT]
      simp [tabV, List.map_map, Function.comp_def]
    rw [this]
  · cases hT
end Go.A.Pk
end
section
set_option maxRecDepth 100000
namespace Go.A.Pk
open Go Go.Proofs Go.Joins Go.ChangeShapes Go.WideShapes Go.RowKit Go.Deep
theorem c8 : compF Tryz.prog Tryz.f8 [[0, 2, 4], [0, 2, 4, 31], [6], [0, 2, 4, 7, 8], [0, 2, 4, 7, 8, 9, 10], [0, 2, 4, 7, 8, 9, 10, 11, 12], [0, 2, 4, 7, 8, 9, 10, 11, 12, 13, 14], [0, 2, 4, 7, 8, 9, 10, 11, 12, 13, 14, 15, 16], [4, 7, 8, 9, 10, 11, 12, 13, 14, 15, 16, 17, 18], [6]] = some f8 := by kernel_rfl
theorem c41 : compF Tryz.prog Tryz.f41 [[0], [0, 4], [0, 4, 9], [0, 4, 5], [0, 4, 5, 22], [2, 3], [0, 4], [2, 3]] = some f41 := by kernel_rfl
theorem c42 : compF Tryz.prog Tryz.f42 [[0, 3], [0, 3, 7], [0, 3, 7, 15], [4, 5], [0, 3, 8], [0, 3, 8, 21], [4, 5], [4, 5]] = some f42 := by kernel_rfl
theorem c43 : compF Tryz.prog Tryz.f43 [[0, 3], [0, 3, 7], [0, 3, 7, 14], [0, 3, 7], [0, 3, 7, 19], [4, 5], [4, 5]] = some f43 := by kernel_rfl
theorem c45 : compF Tryz.prog Tryz.f45 [[0, 1], [0, 1, 7], [0, 1, 7, 14], [4, 5], [4, 5]] = some f45 := by kernel_rfl
theorem c46 : compF Tryz.prog Tryz.f46 [[0, 1], [0, 1, 10], [4], [0, 1, 5], [0, 1, 5, 14], [0, 1, 5, 25], [4], [0, 1, 5], [4]] = some f46 := by kernel_rfl
theorem c48 : compF Tryz.prog Tryz.f48 [[1], [1, 3], [1, 3, 25], [1, 3], [48], [2], [2]] = some f48 := by kernel_rfl
theorem c113 : compF Tryz.prog Tryz.f113 [[0, 1, 2], [6]] = some f113 := by kernel_rfl
theorem c130 : compF Tryz.prog Tryz.f130 [[0, 3], [0, 3, 10], [4], [0, 3, 13], [4], [0, 3, 5], [0, 3, 5, 6], [0, 3, 5, 6, 7], [0, 3, 5, 6, 7, 17], [0, 3, 5, 6, 7, 27], [4], [0, 3, 5, 6, 7], [0, 3, 5, 6, 7], [0, 3, 5, 6, 7], [3, 5, 6, 80], [4], [3, 6, 87], [4], [93], [4], [4]] = some f130 := by kernel_rfl
theorem c136 : compF Tryz.prog Tryz.f136 [[0, 1], [0, 1, 5], [0, 1, 5, 6], [0, 1, 5, 6, 12], [0, 1, 5, 6, 7], [0, 1, 5, 6, 7, 8], [0, 1, 5, 6, 7, 8, 33], [0, 1, 5, 6, 7, 8, 63], [0, 1, 5, 6, 7, 8], [0, 1, 5, 6, 7, 8], [0, 1, 5, 6, 64], [0, 1, 5, 6], [0, 1, 5, 6], [4]] = some f136 := by kernel_rfl
noncomputable def tree8 : Tr := (.node (.node (.node (.node (.node .nil 8 f8 .nil) 21 (.prim pSd) (.node .nil 40 f40 .nil)) 41 f41 (.node (.node .nil 42 f42 .nil) 43 f43 .nil)) 44 f44 (.node (.node (.node .nil 45 f45 .nil) 46 f46 (.node .nil 47 f47 .nil)) 48 f48 (.node (.node .nil 90 f90 .nil) 106 f106 .nil))) 113 f113 (.node (.node (.node (.node .nil 129 f129 .nil) 130 f130 (.node .nil 131 f131 .nil)) 132 f132 (.node (.node .nil 133 f133 .nil) 134 f134 .nil)) 135 f135 (.node (.node (.node .nil 136 f136 .nil) 216 f216 (.node .nil 217 f217 .nil)) 218 f218 (.node (.node .nil 219 f219 .nil) 220 f220 .nil))))
noncomputable def T8 : Nat → Option AFunc := tree8.get
theorem all8 : tree8.all (Entry Tryz.prog) := by
  unfold tree8
  exact (Tr.all_node (Tr.all_node (Tr.all_node (Tr.all_node (Tr.all_node Tr.all_nil (.of Tryz.func8 c8) Tr.all_nil) ok21 (Tr.all_node Tr.all_nil (.of Tryz.func40 c40) Tr.all_nil)) (.of Tryz.func41 c41) (Tr.all_node (Tr.all_node Tr.all_nil (.of Tryz.func42 c42) Tr.all_nil) (.of Tryz.func43 c43) Tr.all_nil)) (.of Tryz.func44 c44) (Tr.all_node (Tr.all_node (Tr.all_node Tr.all_nil (.of Tryz.func45 c45) Tr.all_nil) (.of Tryz.func46 c46) (Tr.all_node Tr.all_nil (.of Tryz.func47 c47) Tr.all_nil)) (.of Tryz.func48 c48) (Tr.all_node (Tr.all_node Tr.all_nil (.of Tryz.func90 c90) Tr.all_nil) (.of Tryz.func106 c106) Tr.all_nil))) (.of Tryz.func113 c113) (Tr.all_node (Tr.all_node (Tr.all_node (Tr.all_node Tr.all_nil (.of Tryz.func129 c129) Tr.all_nil) (.of Tryz.func130 c130) (Tr.all_node Tr.all_nil (.of Tryz.func131 c131) Tr.all_nil)) (.of Tryz.func132 c132) (Tr.all_node (Tr.all_node Tr.all_nil (.of Tryz.func133 c133) Tr.all_nil) (.of Tryz.func134 c134) Tr.all_nil)) (.of Tryz.func135 c135) (Tr.all_node (Tr.all_node (Tr.all_node Tr.all_nil (.of Tryz.func136 c136) Tr.all_nil) (.of Tryz.func216 c216) (Tr.all_node Tr.all_nil (.of Tryz.func217 c217) Tr.all_nil)) (.of Tryz.func218 c218) (Tr.all_node (Tr.all_node Tr.all_nil (.of Tryz.func219 c219) Tr.all_nil) (.of Tryz.func220 c220) Tr.all_nil))))
theorem sound8 : SoundT Tryz.prog T8 := soundT_of (by kernel_rfl) all8
theorem fns8 : FnsL8 T8 := { p := sound8.primAS, fo := { toFnsRd := { p := sound8.primAS, f47 := by kernel_rfl, f106 := by kernel_rfl, f90 := by kernel_rfl }, f129 := by kernel_rfl, f216 := by kernel_rfl, f217 := by kernel_rfl, vo := { p := sound8.primAS, f135 := by kernel_rfl, f218 := by kernel_rfl, f219 := by kernel_rfl, f220 := by kernel_rfl } }, rf := { toFnsRr := { p := sound8.primAS, f48 := by kernel_rfl, f113 := by kernel_rfl }, f130 := by kernel_rfl }, f8 := by kernel_rfl, f21 := by kernel_rfl, f40 := by kernel_rfl, f41 := by kernel_rfl, f42 := by kernel_rfl, f43 := by kernel_rfl, f44 := by kernel_rfl, f45 := by kernel_rfl, f46 := by kernel_rfl, f131 := by kernel_rfl, f132 := by kernel_rfl, f133 := by kernel_rfl, f134 := by kernel_rfl, f136 := by kernel_rfl }
theorem sheets_calls {W : World} (V : TabAt W) {sl : Value} {l : List Rd} (hl : RdsAt W sl l) {r : Rd} (hR : IsR r) (day : Int) : Calls Tryz.prog 8 #[sl, rdV r, .int .i64 day] W fun e W' => e = .returned (.bool true) ∧ Below W.heap.size W W' := by
  obtain ⟨h, μ, hRR, hro, hrd, hnx, hgl, a, c, hu, hs, hc⟩ := laidG1 V.gl hl.1
  obtain ⟨r', h', ⟨m, hm⟩, rfl, rfl⟩ := law8 fns8 hrd (hgl 2 _ List.mem_cons_self) (by omega) ⟨hs, hl.2⟩ hR day
  have hrun := hm m (Nat.le_refl _)
  have ha : LR μ [.slice a l.length c, rdV r, .int .i64 day] [sl, rdV r, .int .i64 day] := .cons hu (.cons (VR.noRef (noRef_rdV r)).1 (.cons (.int _ _) .nil))
  refine (acall_calls sound8 hrun hrd.log (by kernel_rfl) hRR ha).mono fun e W' hq => ?_
  obtain ⟨μ', q1, q2, q3⟩ := hq
  cases e with
  | returned v' =>
    have hv : VR μ' (.bool true) v' := q1
    cases hv
    exact ⟨rfl, St.below q3 hro⟩
  | panicked _ => exact q1.elim
  | outgrown => exact q1.elim
end Go.A.Pk
end
