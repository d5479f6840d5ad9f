/- From the machine to the row. -/
import Derived.Test.YteafdpbjocdbbaaGreatDoorLD
import Derived.Carry
import Derived.Lib.SmallJoins
import Derived.Deep.Slices
import Derived.Deep.Fields
import Derived.Test.YteafdpbjocdbbaaGreatDoorLU
import Derived.Test.YteafdpbjocdbbaaGreatDoorProg
import Derived.SizedLaws
import Derived.KernelRfl
import Derived.Test.YteafdpbjocdbbaaGreatDoorLX
import Derived.Test.YteafdpbjocdbbaaGreatDoorLW
import Derived.Test.YteafdpbjocdbbaaGreatDoorLH
import Derived.Test.YteafdpbjocdbbaaGreatDoorLT
set_option linter.all false
section
namespace Go.A
open Go.ChangeShapes Go.WideShapes Go.ChangeAt Go.RowKit
section
variable {H : Type} {enc : TypeId × Value → H} {P : Program}
theorem trodAll_stays (hl : laidOutB P = true) {W W' : World} (hb : Below W.heap.size W W') : ∀ {ts : List TypeId} {vs : List Value} {ds : List (DataW H)} {ps : List MemPlace}, (∀ t ∈ ts, P.readableRec t = true ∧ t < P.types.size) → DataW.TrodAll enc P W 0 (fun _ => true) true ts vs ds ps →
    (∀ x ∈ ps, x.block < W.heap.size) → DataW.TrodAll enc P W' 0 (fun b => decide (b < W.heap.size)) true ts vs ds ps
  | [], vs, ds, ps, _, h, _ => by
    obtain ⟨rfl, rfl, rfl⟩ := trodAll_nil h
    exact trodAll_mk0
  | t :: ts, vs, ds, ps, hr, h, hlt => by
    obtain ⟨v, vs', d, ds', p, q, rfl, rfl, rfl, hd, hrest⟩ := trodAll_cons h
    have h1 := hr t (List.mem_cons_self ..)
    exact ⟨p, q, Below.trod hl h1.1 h1.2 hd hb fun x hx => hlt x (List.mem_append_left _ hx), trodAll_stays hl hb (fun t ht => hr t (List.mem_cons_of_mem _ ht)) hrest fun x hx => hlt x (List.mem_append_right _ hx), rfl⟩
theorem law_post {f : Func} {s : ChangeSpec} {W W' : World} {args : Array Value} {ds gs : List (DataW H)} {before : List MemPlace} {tb : TypeId} (hW : DataW.Whole enc P f.params.toList s.vars false W args.toList ds gs before) (hv : s.vars = [])
    (hfn : (s.fn H ds).results = [.lit (.bool true)] ∧ (s.fn H ds).args = ds ∧ (s.fn H ds).vars = []) (hl : laidOutB P = true) (hr : ∀ t ∈ f.params.toList, P.readableRec t = true ∧ t < P.types.size) (hres : f.resultTypes = #[tb]) (htb : P.underlying tb = some .bool) (hb : Below W.heap.size W W') :
    s.post enc P f false true false false W args (.bool true) W' := by
  have hW' := hW
  obtain ⟨p, q, hA, hV, hpq, hz, hn⟩ := hW
  rw [hv] at hV
  obtain ⟨rfl, rfl⟩ := trodVars_none hV
  have hbp : before = p := by simpa using hpq
  subst hbp
  obtain ⟨h1, h2, h3⟩ := hfn
  have hlt : ∀ x ∈ before, x.block < W.heap.size := fun x hx => by simpa using hW'.lt x hx
  refine ⟨ds, [], before, [], before, [], hW', ?_, ?_, ?_, hb.frame _, fun h => by cases h⟩
  · rw [List.append_nil, h1, hres]
    exact trodAll_cons_mk (shut_bool htb _) trodAll_mk0
  · rw [List.append_nil, h2]
    exact trodAll_stays hl hb hr hA hlt
  · rw [List.append_nil, h3, hv]
    rfl
end
end Go.A
end
section
set_option maxRecDepth 100000
namespace Go.A.Pk
open Go Go.Proofs Go.Joins Go.ChangeShapes Go.WideShapes Go.RowKit Go.Deep
instance : Inhabited Kd := ⟨⟨0, 0, 0, 0, false⟩⟩
inductive KindsAt (W : World) : Value → List Kd → Prop
  | nil : KindsAt W (.slice none 0 0) []
  | empty {b o cap c el fz} : W.heap[b]? = some (.cells c el fz) → cap < UNK → KindsAt W (.slice (some ⟨b, o, none⟩) 0 cap) []
  | full {b o cap c el fz} {l : List Kd} : W.heap[b]? = some (.cells c el fz) → l ≠ [] → l.length ≤ cap → cap < UNK → (∀ j, j < l.length * 5 → c[o + j]? = (kcs l)[j]?) → KindsAt W (.slice (some ⟨b, o, none⟩) l.length cap) l
theorem kcs_get : ∀ {l : List Kd} {i : Nat} {k : Kd} {j : Nat}, l[i]? = some k → j < 5 → (kcs l)[i * 5 + j]? = (kc k)[j]?
  | [], i, k, j, h, _ => by simp at h
  | x :: l, 0, k, j, h, hj => by
    simp only [List.getElem?_cons_zero, Option.some.injEq] at h
    subst h
    simp only [kcs, Nat.zero_mul, Nat.zero_add]
    rw [List.getElem?_append_left (by simpa [kc] using hj)]
  | x :: l, i + 1, k, j, h, hj => by
    rw [List.getElem?_cons_succ] at h
    have := kcs_get (l := l) h hj
    simp only [kcs]
    rw [List.getElem?_append_right (by simp [kc]; omega), ← this]
    congr 1
    simp [kc]; omega
section
variable {H : Type} {enc : TypeId × Value → H} {W : World} {base : Nat} {spare : Nat → Bool} {held : Bool}
theorem cells3 : Tryz.prog.cellsOf 3 = 1 := by kernel_rfl
theorem cells4 : Tryz.prog.cellsOf 4 = 1 := by kernel_rfl
theorem cells69 : Tryz.prog.cellsOf 69 = 5 := by kernel_rfl
theorem kind_cells {fuel : Nat} {cs : List Value} {x : DataW H × List MemPlace} (h : DataW.trod enc Tryz.prog W base spare held fuel 69 cs = some x) : ∃ k : Kd, cs = kc k := by
  obtain ⟨xs, n, _, hx, hcl, hlen, hg⟩ := DataW.trod_struct Tryz.underlying69 h
  rw [cells69] at hcl
  match cs, hcl with
  | [c0, c1, c2, c3, c4], _ =>
    match xs, hlen with
    | [y0, y1, y2, y3, y4], _ =>
      have g0 : DataW.trod enc Tryz.prog W base spare held n 3 [c0] = some y0 := by have := hg 0 _ rfl; simpa [cells3] using this
      have g1 : DataW.trod enc Tryz.prog W base spare held n 3 [c1] = some y1 := by have := hg 1 _ rfl; simpa [cells3] using this
      have g2 : DataW.trod enc Tryz.prog W base spare held n 3 [c2] = some y2 := by have := hg 2 _ rfl; simpa [cells3] using this
      have g3 : DataW.trod enc Tryz.prog W base spare held n 3 [c3] = some y3 := by have := hg 3 _ rfl; simpa [cells3] using this
      have g4 : DataW.trod enc Tryz.prog W base spare held n 4 [c4] = some y4 := by have := hg 4 _ rfl; simpa [cells4] using this
      obtain ⟨a0, h0, _⟩ := DataW.trod_int Tryz.underlying3 g0
      obtain ⟨a1, h1, _⟩ := DataW.trod_int Tryz.underlying3 g1
      obtain ⟨a2, h2, _⟩ := DataW.trod_int Tryz.underlying3 g2
      obtain ⟨a3, h3, _⟩ := DataW.trod_int Tryz.underlying3 g3
      obtain ⟨a4, h4, _⟩ := DataW.trod_bool Tryz.underlying4 g4
      cases h0; cases h1; cases h2; cases h3; cases h4
      exact ⟨⟨a0, a1, a2, a3, a4⟩, rfl⟩
theorem add_eq (b o n : Nat) : (Addr.mk b o none).add n = ⟨b, o + n, none⟩ := by
  unfold Addr.add
  by_cases h : n = 0
  · rw [if_pos h, h, Nat.add_zero]
  · rw [if_neg h]
theorem open_saw {v : Value} {d : DataW H} {p : List MemPlace} (hv : Value.okWide Tryz.prog W .any base 24 v) (h : DataW.Trod enc Tryz.prog W 0 (fun _ => true) held 24 v d p) (hz : ∀ n ∈ d.weights Tryz.prog 24, n ≤ reachBytes) : ∃ sl kerf l, v = .agg #[sl, .int .i64 kerf] ∧ KindsAt W sl l := by
  have hv0 := hv
  obtain ⟨v0, v1, y0, y1, n, rfl, hd, _, h0, h1⟩ := open_agg2 Tryz.underlying24 (by kernel_rfl) (by kernel_rfl) hv h
  obtain ⟨kerf, hk, _⟩ := DataW.trod_int Tryz.underlying3 h1
  cases hk
  have hcell : Cell.okWide Tryz.prog W .any base 22 v0 := by
    simp only [Value.okWide, Tryz.underlying24] at hv0
    obtain ⟨cs, hcs, _, ts, hts, _, hrow⟩ := hv0
    cases hcs
    have e : Tryz.prog.cellTypes Tryz.prog.depth 24 = some [22, 3] := by kernel_rfl
    rw [e] at hts
    cases hts
    obtain ⟨u, hu, hc⟩ := hrow 0 v0 rfl
    cases hu
    exact hc
  rcases open_slice Tryz.underlying22 h0 with ⟨h2, _⟩ | ⟨a, len, cap, m, n', D, Pl, h2, _, hl, hcap, hm, hy, hx⟩
  · cases h2
    exact ⟨_, kerf, [], rfl, .nil⟩
  · cases h2
    simp only [Cell.okWide, Cell.ok, Tryz.underlying22, World.has] at hcell
    obtain ⟨_, _, _, hspot, row, cells, hsh, _⟩ := hcell
    obtain ⟨b, o, sp⟩ := a
    simp only at hspot hsh
    subst hspot
    rw [if_pos rfl] at hm
    subst hm
    have hcapU : m < UNK := by
      have e40 : Tryz.prog.bytesOf 69 = 40 := by kernel_rfl
      have := hz (m * 40) (by
        rw [hd, hy]
        simp only [DataW.weights, Tryz.underlying24, DataW.weightsEach, Tryz.underlying22, List.map_cons, List.map_nil, e40, List.length_map, List.length_range, show len + (m - len) = m by omega]
        simp)
      unfold reachBytes at this
      unfold UNK; omega
    obtain ⟨c, el, fz, hheap⟩ : ∃ c el fz, W.heap[b]? = some (.cells c el fz) := by
      unfold World.shape? at hsh
      split at hsh
      · rename_i c el fz he; exact ⟨c, el, fz, he⟩
      · cases hsh
    have hlm : len ≤ m := hl
    obtain ⟨f, hf⟩ := choose_lt (α := Kd) (n := len) (p := fun i k => ∀ j, j < 5 → c[o + (i * 5 + j)]? = (kc k)[j]?) (fun i hi => by
      obtain ⟨cs', hc, ht⟩ := hx i (by omega)
      obtain ⟨k, hk⟩ := kind_cells ht
      subst hk
      refine ⟨k, fun j hj => ?_⟩
      rw [cells69] at hc
      obtain ⟨_, _, hat⟩ := World.cells?_some hc
      have := hat j hj
      rw [add_eq, add_eq] at this
      rw [← this, Nat.add_assoc]
      unfold World.cell?
      simp only [hheap]
      rfl)
    by_cases h0 : len = 0
    · subst h0
      exact ⟨_, kerf, [], rfl, .empty hheap hcapU⟩
    · have hlen : ((List.range len).map f).length = len := by simp
      refine ⟨_, kerf, (List.range len).map f, rfl, ?_⟩
      have := KindsAt.full (W := W) (o := o) (cap := m) (l := (List.range len).map f) hheap (by intro e; rw [e] at hlen; simp at hlen; omega) (by omega) hcapU (fun j hj => by
        rw [hlen] at hj
        have h5 : j / 5 < len := by omega
        have e1 : j = j / 5 * 5 + j % 5 := by omega
        have g1 := hf (j / 5) h5 (j % 5) (by omega)
        have g2 := kcs_get (l := (List.range len).map f) (i := j / 5) (k := f (j / 5)) (j := j % 5) (by simp [h5]) (by omega)
        rw [← e1] at g1 g2
        rw [g1, g2])
      rw [hlen] at this
      exact this
end
end Go.A.Pk
end
section
set_option maxRecDepth 100000
namespace Go.A.Pk
open Go Go.Proofs Go.RowKit
theorem R.single {P : Program} {W : World} {n b d : Nat} {vs : List Value} {sz e : Nat} {c : Array Value} {el : TypeId} {fz : Nat × Nat} (hn : P.globals.size ≤ n) (hW : W.heap[b]? = some (.cells c el fz)) (h1 : d + vs.length ≤ e) (h2 : e ≤ c.size)
    (hv : ∀ i, i < vs.length → ∃ v', c[d + i]? = some v' ∧ VR (fun x => if x = n then some ⟨b, d, e, sz⟩ else none) (gv vs i) v') : R P (fun x => if x = n then some ⟨b, d, e, sz⟩ else none) ⟨[(n, .cells vs false sz)], n + 1, []⟩ W := by
  have hg : ∀ x o, (⟨[(n, .cells vs false sz)], n + 1, []⟩ : Heap).get x = some o → x = n ∧ o = .cells vs false sz := fun x o hx => by
    simp only [Heap.get, getO, cond_eq_ite, beq_eq, decide_eq_true_eq] at hx
    split at hx
    · rename_i he; cases hx; exact ⟨he.symm, rfl⟩
    · cases hx
  refine ⟨Nat.le_succ_of_le hn, fun g o hgs hx => ?_, fun x o hx => ?_, fun x o hx => ?_, fun x k hk => ?_, fun x y o o' k k' hne hx hy => ?_⟩
  · obtain ⟨rfl, _⟩ := hg _ _ hx; omega
  · obtain ⟨rfl, rfl⟩ := hg _ _ hx
    intro k hk
    dsimp only at hk
    rw [if_pos rfl] at hk
    cases hk
    exact ⟨rfl, c, el, fz, hW, h1, h2, hv, fun h => by cases h⟩
  · obtain ⟨rfl, _⟩ := hg _ _ hx; exact Nat.lt_succ_self _
  · split at hk
    · rename_i he; subst he; cases hk
      exact ⟨Nat.lt_succ_self _, (Array.getElem?_eq_some_iff.1 hW).1⟩
    · cases hk
  · obtain ⟨rfl, _⟩ := hg _ _ hx
    obtain ⟨rfl, _⟩ := hg _ _ hy
    exact (hne rfl).elim
theorem St.below {μ μ' : Mu} {h h' : Heap} {W W' : World} (s : St μ h W μ' h' W') (hro : ∀ b o, h.get b = some o → o.ro = true ∨ o.live = false) : Below W.heap.size W W' :=
  ⟨s.same.os, s.same.tape, s.same.out, s.le, fun r hr => s.keep r hr fun ⟨b, o, k, g1, g2, g3, _⟩ => by
    rcases hro b o g1 with q | q
    · rw [q] at g3; cases g3
    · rw [q] at g2; cases g2⟩
structure Laid (W : World) (sl : Value) (l : List Kd) (h : Heap) (μ : Mu) (v : Value) (n c : Nat) (a : Option Addr) : Prop where
  rel : R Tryz.prog μ h W
  ro : ∀ b o, h.get b = some o → o.ro = true ∨ o.live = false
  rdy : Rdy h
  val : VR μ v sl
  form : v = .slice a n c
  at' : SliceOf h 5 (.slice a n c) n (kcs l)
theorem KindsAt.laid {W : World} {sl : Value} {l : List Kd} (hk : KindsAt W sl l) : ∃ h μ v n c a, Laid W sl l h μ v n c a := by
  have hg : Tryz.prog.globals.size ≤ 8 := of_decide_eq_true (by kernel_rfl)
  have hro : ∀ vs, ∀ b o, (⟨[(8, .cells vs false 5)], 9, []⟩ : Heap).get b = some o → o.ro = true ∨ o.live = false := fun vs b o hx => by
    simp only [Heap.get, getO, cond_eq_ite] at hx
    split at hx
    · cases hx; exact .inl rfl
    · cases hx
  have hrd : ∀ vs, Rdy (⟨[(8, .cells vs false 5)], 9, []⟩ : Heap) := fun vs => ⟨⟨by simp, fun b hb => by simp at hb; subst hb; show 8 < 9; omega⟩, rfl⟩
  cases hk with
  | nil =>
    exact ⟨⟨[], 8, []⟩, fun _ => none, .slice none 0 0, 0, 0, none, R.none hg, (fun b o hx => by cases hx), ⟨⟨by simp, fun b hb => by simp at hb⟩, rfl⟩, .sliceN _ _, rfl, .nil⟩
  | @empty b o cap c el fz hW hc =>
    refine ⟨⟨[(8, .cells [] false 5)], 9, []⟩, fun x => if x = 8 then some ⟨b, 0, 0, 5⟩ else none, .slice (some ⟨8, o, none⟩) 0 cap, 0, cap, some ⟨8, o, none⟩, R.single hg hW (Nat.le_refl _) (Nat.zero_le _) (fun i hi => by simp at hi), hro _, hrd _, ?_, rfl, ?_⟩
    · have := VR.slice (μ := fun x => if x = 8 then some (⟨b, 0, 0, 5⟩ : Blk) else none) (b := 8) (o := o) (l := 0) (c := cap) (k := ⟨b, 0, 0, 5⟩) (by simp) hc (Nat.zero_le _)
      simpa using this
    · refine .mem ⟨by show 8 < 9; omega, ⟨[], false, 5, rfl, ?_⟩, rfl⟩ (Nat.zero_le _)
      cases o <;> rfl
  | @full b o cap c el fz _ hW hne hl hc hat =>
    have hlen := kcs_length l
    have hpos : 0 < l.length := List.length_pos_iff.2 hne
    have hsz : o + l.length * 5 ≤ c.size := by
      have h1 := hat (l.length * 5 - 1) (by omega)
      have h2 : (kcs l)[l.length * 5 - 1]? = some ((kcs l)[l.length * 5 - 1]'(by omega)) := List.getElem?_eq_getElem _
      rw [h2] at h1
      have := (Array.getElem?_eq_some_iff.1 h1).1
      omega
    refine ⟨⟨[(8, .cells (kcs l) false 5)], 9, []⟩, fun x => if x = 8 then some ⟨b, o, o + l.length * 5, 5⟩ else none, .slice (some ⟨8, 0, none⟩) l.length cap, l.length, cap, some ⟨8, 0, none⟩, R.single hg hW (by rw [hlen]; exact Nat.le_refl _) hsz (fun i hi => ?_), hro _, hrd _, ?_, rfl, ?_⟩
    · rw [hlen] at hi
      have h2 : (kcs l)[i]? = some ((kcs l)[i]'(by omega)) := List.getElem?_eq_getElem _
      refine ⟨_, (hat i hi).trans h2, ?_⟩
      have e : gv (kcs l) i = (kcs l)[i]'(by omega) := by unfold gv; rw [lget_eq, h2]; rfl
      rw [e]
      refine (VR.noRef ?_).1
      have hflat : ∀ (l : List Kd), ∀ x ∈ kcs l, noRef x = true := fun l => by
        induction l with
        | nil => intro x hx; cases hx
        | cons k l ih =>
          intro x hx
          simp only [kcs, kc, List.mem_append, List.mem_cons, List.not_mem_nil, or_false] at hx
          rcases hx with (rfl | rfl | rfl | rfl | rfl) | hx
          · rfl
          · rfl
          · rfl
          · rfl
          · rfl
          · exact ih x hx
      exact hflat l _ (List.getElem_mem _)
    · have := VR.slice (μ := fun x => if x = 8 then some (⟨b, o, o + l.length * 5, 5⟩ : Blk) else none) (b := 8) (o := 0) (l := l.length) (c := cap) (k := ⟨b, o, o + l.length * 5, 5⟩) (by simp) hc hl
      simpa using this
    · refine .mem ⟨by show 8 < 9; omega, ⟨kcs l, false, 5, rfl, ?_⟩, hlen⟩ hl
      rw [ltake_eq, ldrop_eq, List.drop_zero, List.take_of_length_le (by omega)]
end Go.A.Pk
end
section
set_option maxRecDepth 100000
open Go Go.A Go.Proofs Go.RowKit
namespace Go.A.Pk
theorem c6 : compF Tryz.prog Tryz.f6 [[1, 2, 3, 4], [1, 2, 3, 4, 25], [8], [1, 2, 3, 4, 9, 10], [1, 2, 3, 4, 9, 10, 11, 12], [1, 2, 3, 4, 9, 11, 44], [8], [1, 2, 3, 4, 9, 13, 14], [1, 2, 3, 4, 9, 59], [8], [1, 2, 3, 4, 9, 15, 16], [1, 2, 3, 4, 9, 15, 16, 17, 18], [1, 2, 3, 4, 9, 91], [8], [1, 2, 3, 4, 9, 19, 20], [1, 2, 3, 4, 9, 19, 105], [8], [9, 19, 21, 22], [8]] = some f6 := by kernel_rfl
def tree6 : Tr := (.node (.node (.node (.node (.node .nil 6 f6 .nil) 18 f18 (.node .nil 19 (.prim (pConst (.bool true))) .nil)) 32 f32 (.node (.node .nil 39 f39 .nil) 59 f59 (.node .nil 60 f60 .nil))) 61 f61 (.node (.node (.node .nil 66 f66 .nil) 75 f75 (.node .nil 76 f76 .nil)) 77 f77 (.node (.node .nil 83 f83 .nil) 94 f94 (.node .nil 96 f96 .nil)))) 97 f97 (.node (.node (.node (.node .nil 104 f104 .nil) 105 f105 (.node .nil 106 f106 .nil)) 113 f113 (.node (.node .nil 114 f114 .nil) 117 f117 (.node .nil 118 f118 .nil))) 119 f119 (.node (.node (.node .nil 122 f122 .nil) 136 f136 (.node .nil 140 f140 .nil)) 141 f141 (.node (.node .nil 147 f147 .nil) 149 f149 .nil))))
def T6 : Nat → Option AFunc := tree6.get
theorem all6 : tree6.all (Entry Tryz.prog) := by
  unfold tree6
  exact (Tr.all_node (Tr.all_node (Tr.all_node (Tr.all_node (Tr.all_node Tr.all_nil (.of Tryz.func6 c6) Tr.all_nil) (.of Tryz.func18 c18) (Tr.all_node Tr.all_nil ok19 Tr.all_nil)) (.of Tryz.func32 c32) (Tr.all_node (Tr.all_node Tr.all_nil (.of Tryz.func39 c39) Tr.all_nil) (.of Tryz.func59 c59) (Tr.all_node Tr.all_nil (.of Tryz.func60 c60) Tr.all_nil))) (.of Tryz.func61 c61) (Tr.all_node (Tr.all_node (Tr.all_node Tr.all_nil (.of Tryz.func66 c66) Tr.all_nil) (.of Tryz.func75 c75) (Tr.all_node Tr.all_nil (.of Tryz.func76 c76) Tr.all_nil)) (.of Tryz.func77 c77) (Tr.all_node (Tr.all_node Tr.all_nil (.of Tryz.func83 c83) Tr.all_nil) (.of Tryz.func94 c94) (Tr.all_node Tr.all_nil (.of Tryz.func96 c96) Tr.all_nil)))) (.of Tryz.func97 c97) (Tr.all_node (Tr.all_node (Tr.all_node (Tr.all_node Tr.all_nil (.of Tryz.func104 c104) Tr.all_nil) (.of Tryz.func105 c105) (Tr.all_node Tr.all_nil (.of Tryz.func106 c106) Tr.all_nil)) (.of Tryz.func113 c113) (Tr.all_node (Tr.all_node Tr.all_nil (.of Tryz.func114 c114) Tr.all_nil) (.of Tryz.func117 c117) (Tr.all_node Tr.all_nil (.of Tryz.func118 c118) Tr.all_nil))) (.of Tryz.func119 c119) (Tr.all_node (Tr.all_node (Tr.all_node Tr.all_nil (.of Tryz.func122 c122) Tr.all_nil) (.of Tryz.func136 c136) (Tr.all_node Tr.all_nil (.of Tryz.func140 c140) Tr.all_nil)) (.of Tryz.func141 c141) (Tr.all_node (Tr.all_node Tr.all_nil (.of Tryz.func147 c147) Tr.all_nil) (.of Tryz.func149 c149) Tr.all_nil))))
theorem sound6 : SoundT Tryz.prog T6 := soundT_of (by kernel_rfl) all6
theorem fnsA6 : FnsA T6 := { p := sound6.primAS, f77 := by kernel_rfl, f117 := by kernel_rfl, f119 := by kernel_rfl, f147 := by kernel_rfl, f118 := by kernel_rfl, f66 := by kernel_rfl }
theorem fnsC6 : FnsC T6 := { p := sound6.primAS, f18 := by kernel_rfl, f77 := by kernel_rfl, f97 := by kernel_rfl, f122 := by kernel_rfl, f149 := by kernel_rfl }
theorem fnsE6 : FnsE T6 := { fnsA6, fnsC6 with f75 := by kernel_rfl, f96 := by kernel_rfl, f113 := by kernel_rfl }
theorem fnsH6 : FnsH T6 := { fnsE6 with f59 := by kernel_rfl, f60 := by kernel_rfl, f61 := by kernel_rfl, f114 := by kernel_rfl, f39 := by kernel_rfl }
theorem fnsV6 : FnsV T6 := { p := sound6.primAS, f94 := by kernel_rfl, f104 := by kernel_rfl, f105 := by kernel_rfl, f106 := by kernel_rfl, f136 := by kernel_rfl, f140 := by kernel_rfl, f141 := by kernel_rfl, f83 := by kernel_rfl }
theorem fnsW6 : FnsW T6 := { fnsE6, fnsV6 with f76 := by kernel_rfl, f32 := by kernel_rfl }
theorem pu19S {h : Heap} : Pu T6 19 [] h (.bool true) := .prim (p := pConst (.bool true)) (by kernel_rfl) rfl ⟨rfl, rfl⟩
theorem fnsS : FnsS T6 := { fnsW6, fnsH6 with f6 := by kernel_rfl, c19 := fun _ => pu19S }
theorem shape_calls {W : World} {sl : Value} {l : List Kd} (hk : KindsAt W sl l) (kerf w ht cut : Int) : Calls Tryz.prog 6 #[.agg #[sl, .int .i64 kerf], .int .i64 w, .int .i64 ht, .int .i64 cut] W fun e W' => e = .returned (.bool true) ∧ Below W.heap.size W W' := by
  obtain ⟨h, μ, u, n, c, a, L⟩ := hk.laid
  obtain ⟨r, h', ⟨m, hm⟩, rfl, rfl⟩ := law6 fnsS L.rdy L.at' kerf w ht cut
  have hrun := hm m (Nat.le_refl _)
  have hu : VR μ (.slice a n c) sl := L.form ▸ L.val
  have ha : LR μ [.agg #[.slice a n c, .int .i64 kerf], .int .i64 w, .int .i64 ht, .int .i64 cut] [.agg #[sl, .int .i64 kerf], .int .i64 w, .int .i64 ht, .int .i64 cut] :=
    .cons (VR.aggL (.cons hu (.cons (.int _ _) .nil))) (.cons (.int _ _) (.cons (.int _ _) (.cons (.int _ _) .nil)))
  refine (acall_calls sound6 hrun L.rdy.log (by kernel_rfl) L.rel ha).mono fun e W' hq => ?_
  obtain ⟨μ', q1, q2, q3⟩ := hq
  cases e with
  | returned v' =>
    have hv : VR μ' (.bool true) v' := q1
    cases hv
    exact ⟨rfl, St.below q3 L.ro⟩
  | panicked _ => exact q1.elim
  | outgrown => exact q1.elim
end Go.A.Pk
end
