/- Without; the law in the machine. -/
import Derived.Test.YteafdpbjocdbbaaGreatDoorKW
import Derived.Test.YteafdpbjocdbbaaGreatDoorKH
import Derived.Test.YteafdpbjocdbbaaGreatDoorKT
set_option linter.all false
set_option maxRecDepth 100000
open Go Go.A Go.Proofs
namespace Go.A.Pk
def tree1 : Tr := (.node (.node (.node (.node (.node (.node .nil 15 f15 .nil) 18 f18 .nil) 19 (.prim (pConst (.bool true))) (.node .nil 39 f39 .nil)) 59 f59 (.node (.node .nil 60 f60 .nil) 61 f61 (.node .nil 62 f62 .nil))) 63 f63 (.node (.node (.node .nil 64 f64 .nil) 65 f65 (.node .nil 66 f66 .nil)) 67 f67 (.node (.node .nil 68 f68 .nil) 75 f75 (.node .nil 77 f77 .nil)))) 79 f79 (.node (.node (.node (.node .nil 80 f80 .nil) 96 f96 (.node .nil 97 f97 .nil)) 99 f99 (.node (.node .nil 113 f113 .nil) 114 f114 (.node .nil 115 f115 .nil))) 116 f116 (.node (.node (.node .nil 117 f117 .nil) 118 f118 (.node .nil 119 f119 .nil)) 122 f122 (.node (.node .nil 123 f123 .nil) 147 f147 (.node .nil 149 f149 .nil)))))
def T1 : Nat → Option AFunc := tree1.get
theorem ok19 : Entry Tryz.prog 19 (.prim (pConst (.bool true))) := .prim (pConst_ok sound Tryz.func19 (of_decide_eq_true (by kernel_rfl)) (by kernel_rfl) (of_decide_eq_true (by kernel_rfl)) (by kernel_rfl) rfl StkQ.run)
theorem all1 : tree1.all (Entry Tryz.prog) := by
  unfold tree1
  exact (Tr.all_node (Tr.all_node (Tr.all_node (Tr.all_node (Tr.all_node (Tr.all_node Tr.all_nil (.of Tryz.func15 c15) Tr.all_nil) (.of Tryz.func18 c18) Tr.all_nil) ok19 (Tr.all_node Tr.all_nil (.of Tryz.func39 c39) Tr.all_nil)) (.of Tryz.func59 c59) (Tr.all_node (Tr.all_node Tr.all_nil (.of Tryz.func60 c60) Tr.all_nil) (.of Tryz.func61 c61) (Tr.all_node Tr.all_nil (.of Tryz.func62 c62) Tr.all_nil))) (.of Tryz.func63 c63) (Tr.all_node (Tr.all_node (Tr.all_node Tr.all_nil (.of Tryz.func64 c64) Tr.all_nil) (.of Tryz.func65 c65) (Tr.all_node Tr.all_nil (.of Tryz.func66 c66) Tr.all_nil)) (.of Tryz.func67 c67) (Tr.all_node (Tr.all_node Tr.all_nil (.of Tryz.func68 c68) Tr.all_nil) (.of Tryz.func75 c75) (Tr.all_node Tr.all_nil (.of Tryz.func77 c77) Tr.all_nil)))) (.of Tryz.func79 c79) (Tr.all_node (Tr.all_node (Tr.all_node (Tr.all_node Tr.all_nil (.of Tryz.func80 c80) Tr.all_nil) (.of Tryz.func96 c96) (Tr.all_node Tr.all_nil (.of Tryz.func97 c97) Tr.all_nil)) (.of Tryz.func99 c99) (Tr.all_node (Tr.all_node Tr.all_nil (.of Tryz.func113 c113) Tr.all_nil) (.of Tryz.func114 c114) (Tr.all_node Tr.all_nil (.of Tryz.func115 c115) Tr.all_nil))) (.of Tryz.func116 c116) (Tr.all_node (Tr.all_node (Tr.all_node Tr.all_nil (.of Tryz.func117 c117) Tr.all_nil) (.of Tryz.func118 c118) (Tr.all_node Tr.all_nil (.of Tryz.func119 c119) Tr.all_nil)) (.of Tryz.func122 c122) (Tr.all_node (Tr.all_node Tr.all_nil (.of Tryz.func123 c123) Tr.all_nil) (.of Tryz.func147 c147) (Tr.all_node Tr.all_nil (.of Tryz.func149 c149) Tr.all_nil)))))
theorem sound1 : SoundT Tryz.prog T1 := soundT_of (by kernel_rfl) all1
theorem fnsA : FnsA T1 := { p := sound1.primAS, f77 := by kernel_rfl, f117 := by kernel_rfl, f119 := by kernel_rfl, f147 := by kernel_rfl, f118 := by kernel_rfl, f66 := by kernel_rfl }
theorem fnsB : FnsB T1 := { p := sound1.primAS, f80 := by kernel_rfl, f67 := by kernel_rfl }
theorem fnsC : FnsC T1 := { p := sound1.primAS, f18 := by kernel_rfl, f77 := by kernel_rfl, f97 := by kernel_rfl, f122 := by kernel_rfl, f149 := by kernel_rfl }
theorem fnsD : FnsD T1 := { fnsB with f79 := by kernel_rfl, f99 := by kernel_rfl, f123 := by kernel_rfl }
theorem fnsE : FnsE T1 := { fnsA, fnsC with f75 := by kernel_rfl, f96 := by kernel_rfl, f113 := by kernel_rfl }
theorem fnsG : FnsG T1 := { fnsD with f115 := by kernel_rfl, f116 := by kernel_rfl }
theorem fnsH : FnsH T1 := { fnsE with f59 := by kernel_rfl, f60 := by kernel_rfl, f61 := by kernel_rfl, f114 := by kernel_rfl, f39 := by kernel_rfl }
theorem fnsI : FnsI T1 := { fnsG with f62 := by kernel_rfl, f63 := by kernel_rfl, f64 := by kernel_rfl, f65 := by kernel_rfl }
theorem pu19 {h : Heap} : Pu T1 19 [] h (.bool true) := .prim (p := pConst (.bool true)) (by kernel_rfl) rfl ⟨rfl, rfl⟩
theorem fnsL : FnsL T1 := { fnsA, fnsB, fnsC with f15 := by kernel_rfl, f68 := by kernel_rfl, c19 := fun _ => pu19 }
theorem dflt_len {l : List Kd} {p : Prop} [Decidable p] {n : Nat} (h : l.length < n) : (if p then l else []).length < n := by
  split
  · exact h
  · show 0 < n; omega
def eight {kerf : Int} {l : List Kd} {i v : Int} {k : Kd} (hn : l.length ≤ 16) : Eight T1 kerf l i v k where
  e0 := _
  k0 := _
  l0 := _
  n0 := dflt_len (dflt_len (by rw [raise_len]; omega))
  e1 := _
  k1 := _
  l1 := _
  n1 := dflt_len (dflt_len (by rw [List.length_append]; simp; omega))
  e2 := _
  k2 := _
  l2 := _
  n2 := dflt_len (Nat.lt_of_le_of_lt (List.eraseIdx_sublist l i.toNat).length_le (by omega))
  e3 := _
  k3 := _
  l3 := _
  n3 := dflt_len (by rw [tn_len]; omega)
  c59 := fun hr hs => Al.mono (raised59 fnsH hr hs kerf (by omega) i v) fun v h' q => orErr_change q
  c62 := fun hr hs => Al.mono (raised62 fnsI hr hs kerf (by omega) i v) fun v h' q => orErr_change q
  c60 := fun hr hs => Al.mono (with60 fnsH hr hs kerf (by omega) k) fun v h' q => orErr_change q
  c63 := fun hr hs => Al.mono (with63 fnsI hr hs kerf (by omega) k) fun v h' q => orErr_change q
  c61 := fun hr hs => Al.mono (without61 fnsH hr hs kerf (by omega) i) fun v h' q => orErr_saw q
  c64 := fun hr hs => Al.mono (without64 fnsI hr hs kerf (by omega) i) fun v h' q => orErr_saw q
  c39 := fun hr hs => Al.mono (turned39 fnsH hr hs kerf (by omega)) fun v h' q => orErr_saw q
  c65 := fun hr hs => Al.mono (turned65 fnsI hr hs kerf (by omega)) fun v h' q => orErr_saw q
theorem saws {h : Heap} (hr : Rdy h) {a : Option Addr} {n c : Nat} {l : List Kd} (hs : SliceOf h 5 (.slice a n c) n (kcs l)) (kerf i v : Int) (k : Kd) :
    Pu T1 15 [.agg #[.slice a n c, .int .i64 kerf], .int .i64 i, .int .i64 v, .agg (kc k).toArray] h (.bool true) :=
  law15 fnsL hr hs kerf i v k fun h16 => eight (by have := hs.len; rw [kcs_length] at this; omega)
end Go.A.Pk
