/- PlankTexts: for every list of nodes and text the call of the law comes to true. -/
import Derived.Test.YteafdpbjocdbbaaGreatDoorWU2
import Derived.Test.YteafdpbjocdbbaaGreatDoorCards
import Derived.Test.YteafdpbjocdbbaaGreatDoorTie
import Derived.ProofKit
import Derived.OpenShut
import Derived.Deep.DeepHandedRow
import Derived.Deep.DeepWitnessRowRef
import Derived.Lib.LaidIn
import Derived.SevenTiedAt
set_option linter.all false
set_option maxRecDepth 100000
namespace Go.Proofs.YteafdpbjocdbbaaGreatDoor.plankTexts
open Go Go.A Go.A.Pk Go.ChangeShapes Go.WideShapes Go.ChangeAt Go.RowKit Go.Lib
theorem own:ownKnob Tryz.prog.godebug=none:=by kernel_rfl
theorem laidOut:laidOutB Tryz.prog=true:=by kernel_rfl
theorem readable:∀t∈Tryz.f4.params.toList,Tryz.prog.readableRec t=true∧t<Tryz.prog.types.size:=by
 have h:(Tryz.f4.params.toList.all fun t=>Tryz.prog.readableRec t&&decide (t<Tryz.prog.types.size))=true:=by kernel_rfl
 intro t ht
 have:=List.all_eq_true.1 h t ht
 simpa using this
theorem results:Tryz.f4.resultTypes= #[4]:=by kernel_rfl
theorem laidMet_of_H{P:Program}{l:List (String×DataW Unit)}{w:World}(h:laidMetH P l w)(hf:(l.filter fun x=>x.2.handleName?.isSome)=[]):laidMet P l w:=by
 unfold laidMetH at h
 rw[hf]at h
 exact h
theorem vars_of{W:World}(h:laidMetH Tryz.prog Rows.plankTextsRow.laid W):VarsAt W:=by
 refine vars_at (laidMet_of_H h (by kernel_rfl)) (List.mem_of_getElem? (i:=5) (by exact rfl)) (List.mem_of_getElem? (i:=4) (by exact rfl)) (List.mem_of_getElem? (i:=2) ?_)
 rw[←pow_data]
 exact rfl
theorem contract(H:Type)(enc:TypeId×Value→H)(W:World)(base:Nat)(args:Array Value)(ds gs:List (DataW H))(before:List MemPlace)
 (hval:∀(j:Nat) t v,Tryz.f4.params[j]? =some t→args[j]? =some v→Value.okWide Tryz.prog W .any base t v)
 (hW:DataW.Whole enc Tryz.prog Tryz.f4.params.toList Rows.plankTextsSpec.vars false W args.toList ds gs before)
 (hz:(DataW.weightsEach Tryz.prog (Tryz.f4.params.toList++(OpenSpec.ofChange Rows.plankTextsSpec).bare.plain.varTypes Tryz.prog) (ds++gs)).all (· ≤reachBytes)=true)
 (V:VarsAt W):
 Calls Tryz.prog 4 args W fun e W'=>∃v,e= .returned v∧Rows.plankTextsSpec.post enc Tryz.prog Tryz.f4 false true false false W args v W':=by
 have hW':=hW
 obtain⟨p,q,hA0,hV,rfl,hfz,hnd⟩:=hW
 have hA:DataW.TrodAll enc Tryz.prog W 0 (fun _=>true) true Tryz.f4.params.toList args.toList ds p:=hA0
 have hr:=readable
 rw[Tryz.params4]at hA hval
 obtain⟨v0,vs0,d0,ds0,p0,q0,hargs,rfl,rfl,h0,hr0⟩:=trodAll_cons hA
 obtain⟨v1,vs1,d1,ds1,p1,q1,rfl,rfl,rfl,h1,hr1⟩:=trodAll_cons hr0
 obtain⟨rfl,rfl,rfl⟩:=trodAll_nil hr1
 obtain rfl:args= #[v0,v1]:=by cases args;simp_all
 obtain⟨t,rfl,rfl,rfl⟩:=open_str h1 (hval 1 9 v1 rfl rfl)
 have hz0:∀n∈d0.weights Tryz.prog 31,n≤reachBytes:=fun n hn=>by
  have hm:=DataW.weights_mem_each (P:=Tryz.prog) (ts:=Tryz.f4.params.toList++(OpenSpec.ofChange Rows.plankTextsSpec).bare.plain.varTypes Tryz.prog) (ds:=[d0, .lit (.string t)]++gs) (j:=0) (t:=31) (d:=d0) (by rw[Tryz.params4];rfl) rfl n hn
  simpa using List.all_eq_true.1 hz n hm
 obtain⟨ns,hns,hni⟩:=open_nodesI (hval 0 31 v0 rfl rfl) h0 hz0
 refine(texts_calls V hns hni t).mono fun e W' ⟨he,hb⟩=> ?_
 subst he
 exact⟨_,rfl,law_post hW' rfl ⟨rfl,rfl,rfl⟩ laidOut hr results Tryz.underlying4 hb⟩
def wit:Array Value:= #[.slice none 0 0, .string ⟨#[]⟩]
noncomputable def laidWorld(os:Os):World:=
 let N:=(World.settled Tryz.prog os).heap.size
 let w0:=World.holding Tryz.prog os ⟨#[.cells #[.string ⟨#[118,97,108,117,101,32,111,117,116,32,111,102,32,114,97,110,103,101]⟩] 241, .cells #[.string ⟨#[105,110,118,97,108,105,100,32,115,121,110,116,97,120]⟩] 241], #[],[]⟩
 let put (h:Array Obj) (g:Nat) (cs:Array Value):Array Obj:=h.modify g fun
  | .cells _ t frozen=> .cells cs t frozen
  |o=>o
 let h0:=put (put w0.heap 2 #[.iface 239 (.pointer (some ⟨N,0,none⟩))]) 1 #[.iface 239 (.pointer (some ⟨N+1,0,none⟩))]
 let h1:=put h0 6 #[.int .u8 0, .int .u8 1, .int .u8 28, .int .u8 2, .int .u8 29, .int .u8 14, .int .u8 24, .int .u8 3, .int .u8 30, .int .u8 22, .int .u8 20, .int .u8 15, .int .u8 25, .int .u8 17, .int .u8 4, .int .u8 8, .int .u8 31, .int .u8 27, .int .u8 13, .int .u8 23, .int .u8 21, .int .u8 19, .int .u8 16, .int .u8 7, .int .u8 26, .int .u8 12, .int .u8 18, .int .u8 6, .int .u8 11, .int .u8 5, .int .u8 10, .int .u8 9]
 let h2:=put h1 7 #[.int .u8 0, .int .u8 1, .int .u8 56, .int .u8 2, .int .u8 57, .int .u8 49, .int .u8 28, .int .u8 3, .int .u8 61, .int .u8 58, .int .u8 42, .int .u8 50, .int .u8 38, .int .u8 29, .int .u8 17, .int .u8 4, .int .u8 62, .int .u8 47, .int .u8 59, .int .u8 36, .int .u8 45, .int .u8 43, .int .u8 51, .int .u8 22, .int .u8 53, .int .u8 39, .int .u8 33, .int .u8 30, .int .u8 24, .int .u8 18, .int .u8 12, .int .u8 5, .int .u8 63, .int .u8 55, .int .u8 48, .int .u8 27, .int .u8 60, .int .u8 41, .int .u8 37, .int .u8 16, .int .u8 46, .int .u8 35, .int .u8 44, .int .u8 21, .int .u8 52, .int .u8 32, .int .u8 23, .int .u8 11, .int .u8 54, .int .u8 26, .int .u8 40, .int .u8 15, .int .u8 34, .int .u8 20, .int .u8 31, .int .u8 10, .int .u8 25, .int .u8 14, .int .u8 19, .int .u8 9, .int .u8 13, .int .u8 8, .int .u8 7, .int .u8 6]
 let h3:=put h2 3 #[.int .u64 1, .int .u64 10, .int .u64 100, .int .u64 1000, .int .u64 10000, .int .u64 100000, .int .u64 1000000, .int .u64 10000000, .int .u64 100000000, .int .u64 1000000000, .int .u64 10000000000, .int .u64 100000000000, .int .u64 1000000000000, .int .u64 10000000000000, .int .u64 100000000000000, .int .u64 1000000000000000, .int .u64 10000000000000000, .int .u64 100000000000000000, .int .u64 1000000000000000000, .int .u64 10000000000000000000]
 let h4:=put h3 5 #[.int .u8 128, .int .u8 191, .int .u8 160, .int .u8 191, .int .u8 128, .int .u8 159, .int .u8 144, .int .u8 191, .int .u8 128, .int .u8 143, .int .u8 0, .int .u8 0, .int .u8 0, .int .u8 0, .int .u8 0, .int .u8 0, .int .u8 0, .int .u8 0, .int .u8 0, .int .u8 0, .int .u8 0, .int .u8 0, .int .u8 0, .int .u8 0, .int .u8 0, .int .u8 0, .int .u8 0, .int .u8 0, .int .u8 0, .int .u8 0, .int .u8 0, .int .u8 0]
 let h5:=put h4 4 (Pinned.utf8FirstZ.map fun(z:Nat)=>Value.int .u8 z).toArray
 {w0 with heap:=h5}
theorem laid_met(os:Os):laidMet Tryz.prog Rows.plankTextsRow.laid ((laidWorld os).forCall (fun _ _=>0) ⟨#[],wit,[]⟩).memory:=
 laidMet_of_run' 8 (by kernel_rfl) (by kernel_rfl)
theorem reads(os:Os){H:Type}(enc:TypeId×Value→H):∃places,DataW.whole enc Tryz.prog ((laidWorld os).forCall (fun _ _=>0) ⟨#[],wit,[]⟩).memory Tryz.f4.params.toList Rows.plankTextsSpec.vars false wit.toList 8=
 some ([.nil, .lit (.string [])],[],places):=
 ⟨[],by kernel_rfl⟩
set_option maxHeartbeats 2000000 in
theorem lifted(os:Os)(started:os.Started)(H:Type)(enc:TypeId×Value→H)(F:Stop.Interp):
 ReturnsInHanded {} Tryz.checked os 4 .any ((OpenSpec.ofChange Rows.plankTextsSpec).preRow enc Tryz.prog Tryz.f4 Rows.plankTextsRow.domain false Rows.plankTextsRow.laid) (((OpenSpec.ofChange Rows.plankTextsSpec).at F).post enc Tryz.prog Tryz.f4 false true false false):=by
 obtain⟨places,hx⟩:=reads os enc
 refine returnsInHanded_of_row (C:=Tryz.checked) (s:=OpenSpec.ofChange Rows.plankTextsSpec) own started (by kernel_rfl) Tryz.func4
  (witness_row_atRef (enc:=enc) (C:=Tryz.checked) false (laidWorld os) wit rfl (by kernel_rfl) (by kernel_rfl) (by kernel_rfl)
    (OpenSpec.preRow_of_cond 8 hx (by kernel_rfl) (fun k hk=>by cases hk) (by kernel_rfl) (laid_met os))) ?_
 intro W base args ds gs before hval hW _ _ hz h1 _ _
 exact contract H enc W base args ds gs before hval hW hz (vars_of h1)
theorem fact1:(Rows.plankTextsRow.inPlace==Tryz.prog.inPlace 4)=true:=by kernel_rfl
theorem fact2:(Rows.plankTextsRow.unfollowed==Tryz.prog.unfollowed 4)=true:=by kernel_rfl
theorem fact3:(Rows.plankTextsRow.recurses==Tryz.prog.recurses 4)=true:=by kernel_rfl
theorem fact4:(Rows.plankTextsRow.named==Tryz.prog.varsNamed 4)=true:=by kernel_rfl
theorem closed:joinedFacts Tryz.prog 4 Tryz.f4 (OpenSpec.ofChange Rows.plankTextsSpec).bare Rows.plankTextsRow=true:=by
 unfold joinedFacts
 simp only[Bool.and_eq_true]
 and_intros
 iterate 9 kernel_rfl
 ·exact fact1
 ·exact fact2
 ·exact fact3
 ·exact fact4
 all_goals kernel_rfl
theorem said:Rows.PlankTextsSaid:=
 OpenClaim.holds_of_cond 4 Tryz.f4 rfl rfl rfl rfl rfl rfl rfl ⟨rfl,rfl,rfl,rfl,rfl⟩ rfl rfl rfl rfl rfl (by kernel_rfl) Tryz.func4 closed
  (of_decide_eq_true (by kernel_rfl)) (by unfold Func.isWrapper;first|(rw[if_pos (by decide +kernel)];kernel_rfl)|(rw[if_neg (by decide +kernel)];exact⟨rfl,rfl⟩))
  (fun os started H enc _ F=>by rw[OpenClaim.pre_eq_preRow];exact lifted os started H enc F)
theorem plain(f:FuncId)(fn:Func)(hf:Tryz.pinned.checked.prog.funcNamed "strickle/stricklelaw05.PlankTexts" =some f)(hfn:Tryz.pinned.checked.prog.funcs[f]? =some fn):
 true=Tryz.pinned.checked.prog.looks []∧∀(j:Nat) t,fn.params[j]? =some t→Tryz.pinned.checked.prog.wantsStandIn t=false:=by
 obtain rfl:f=4:=Option.some.inj ((show Tryz.prog.funcNamed "strickle/stricklelaw05.PlankTexts" =some 4 by kernel_rfl).symm.trans hf)|>.symm
 obtain rfl:fn=Tryz.f4:=(Option.some.inj (Tryz.func4.symm.trans hfn)).symm
 refine⟨by kernel_rfl,fun j t ht=> ?_⟩
 have h:(Tryz.f4.params.toList.all fun t=> !Tryz.prog.wantsStandIn t)=true:=by kernel_rfl
 have:=List.all_eq_true.1 h t (List.mem_of_getElem? (by simpa using ht))
 exact(show Tryz.prog.wantsStandIn t=false by simpa using this)
theorem card:Rows.PlankTextsCardSaid:=
 Claim7.holds_tied_plain_at .later [] _ _ _ _ said (fun _ h=>by cases h) (by kernel_rfl) (fun _ h=>by cases h) plankTexts_row_tie rfl ⟨rfl,rfl⟩ (by kernel_rfl) rfl plain (by kernel_rfl)
end Go.Proofs.YteafdpbjocdbbaaGreatDoor.plankTexts
