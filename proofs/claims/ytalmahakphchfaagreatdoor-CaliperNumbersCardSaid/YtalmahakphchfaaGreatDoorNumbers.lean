/- CaliperNumbers: for all arguments the call of the law comes to true. -/
import Derived.Test.YtalmahakphchfaaGreatDoorNU7
import Derived.Test.YtalmahakphchfaaGreatDoorNW
import Derived.Test.YtalmahakphchfaaGreatDoorCards
import Derived.Test.YtalmahakphchfaaGreatDoorTie
import Derived.ProofKit
import Derived.OpenShut
import Derived.Deep.DeepHandedRow
import Derived.Deep.DeepWitnessRowRef
import Derived.Lib.LaidIn
import Derived.SevenTiedAt
set_option linter.all false
set_option maxHeartbeats 16000000
set_option maxRecDepth 100000
namespace Go.Proofs.YtalmahakphchfaaGreatDoor.caliperNumbers
open Go.Proofs.YtalmahakphchfaaGreatDoor.facts
open Go Go.A Go.A.Pk Go.ChangeShapes Go.WideShapes Go.ChangeAt Go.RowKit Go.Lib
theorem readable:∀t∈Tryz.f3.params.toList,Tryz.prog.readableRec t=true/\t<Tryz.prog.types.size:=by
 have h:(Tryz.f3.params.toList.all λt=>Tryz.prog.readableRec t&&decide (t<Tryz.prog.types.size))=true:=by kernel_rfl
 intro t ht;have:=List.all_eq_true.1 h t ht;simpa using this
theorem results:Tryz.f3.resultTypes= #[4]:=by kernel_rfl
theorem x9{P:Program}{l:List (String×DataW Unit)}{w:World}(h:laidMetH P l w)(hf:(l.filter λx=>x.2.handleName?.isSome)=[]):laidMet P l w:=by
 unfold laidMetH at h;rw[hf]at h;exact h
theorem L6{W:World}(h:laidMetH Tryz.prog Rows.caliperNumbersRow.laid W):vJ W:=
 O4 (d:=Rows.laid_math_bits_deBruijn64tab) (rest:=[]) rfl (x9 h (by kernel_rfl))
theorem contract(H:Type)(enc:TypeId×Value->H)(W:World)(base:Nat)(args:Array Value)(ds gs:List (DataW H))(before:List MemPlace)
 (hval:∀(j:Nat) t v,Tryz.f3.params[j]? =some t->args[j]? =some v->Value.okWide Tryz.prog W .any base t v)
 (hW:DataW.Whole enc Tryz.prog Tryz.f3.params.toList Rows.caliperNumbersSpec.vars false W args.toList ds gs before)
 (hz:(DataW.weightsEach Tryz.prog (Tryz.f3.params.toList++(OpenSpec.ofChange Rows.caliperNumbersSpec).bare.plain.varTypes Tryz.prog) (ds++gs)).all (· ≤reachBytes)=true)
 (V:vJ W):
 Calls Tryz.prog 3 args W λe W'=>∃v,e= .returned v/\Rows.caliperNumbersSpec.post enc Tryz.prog Tryz.f3 false true false false W args v W':=by
 have hW':=hW;obtain⟨p,q,hA0,hV,rfl,hfz,hnd⟩:=hW;have hA:DataW.TrodAll enc Tryz.prog W 0 (λ_=>true) true Tryz.f3.params.toList args.toList ds p:=hA0;have hr:=readable;rw[Tryz.params3]at hA hval;obtain⟨v0,vs0,d0,ds0,p0,q0,hargs,rfl,rfl,h0,hr0⟩:=trodAll_cons hA;obtain⟨v1,vs1,d1,ds1,p1,q1,rfl,rfl,rfl,h1,hr1⟩:=trodAll_cons hr0;obtain⟨rfl,rfl,rfl⟩:=trodAll_nil hr1;obtain rfl:args= #[v0,v1]:=by cases args;simp_all
 have hz0:∀n∈d0.weights Tryz.prog 25,n<=reachBytes:=λn hn=>by
  have hm:=DataW.weights_mem_each (P:=Tryz.prog) (ts:=Tryz.f3.params.toList++(OpenSpec.ofChange Rows.caliperNumbersSpec).bare.plain.varTypes Tryz.prog) (ds:=[d0,d1]++gs) (j:=0) (t:=25) (d:=d0) (by rw[Tryz.params3];rfl) rfl n hn;simpa using List.all_eq_true.1 hz n hm
 have hz1:∀n∈d1.weights Tryz.prog 26,n<=reachBytes:=λn hn=>by
  have hm:=DataW.weights_mem_each (P:=Tryz.prog) (ts:=Tryz.f3.params.toList++(OpenSpec.ofChange Rows.caliperNumbersSpec).bare.plain.varTypes Tryz.prog) (ds:=[d0,d1]++gs) (j:=1) (t:=26) (d:=d1) (by rw[Tryz.params3];rfl) rfl n hn;simpa using List.all_eq_true.1 hz n hm
 obtain⟨ov,sv,os,ss,rr,hl0⟩:=AQ (hval 0 25 v0 rfl rfl) h0 hz0;obtain⟨l1,hl1⟩:=B9 (hval 1 26 v1 rfl rfl) h1 hz1;refine(vH V hl0 hl1).mono λe W' ⟨he,hb⟩=> ?_;subst he;exact⟨_,rfl,G8 hW' rfl ⟨rfl,rfl,rfl⟩ laidOut hr results Tryz.underlying4 hb⟩
def wit:Array Value:= #[.agg #[.slice none 0 0, .slice none 0 0, .int .i64 0], .slice none 0 0]
noncomputable def rY(os:Os):World:=
 let w0:=World.holding Tryz.prog os ⟨#[], #[],[]⟩
 let put (h:Array Obj) (g:Nat) (cs:Array Value):Array Obj:=h.modify g fun
  | .cells _ t frozen=> .cells cs t frozen
  |o=>o
 {w0 with heap:=put w0.heap 0 #[.int .u8 0, .int .u8 1, .int .u8 56, .int .u8 2, .int .u8 57, .int .u8 49, .int .u8 28, .int .u8 3, .int .u8 61, .int .u8 58, .int .u8 42, .int .u8 50, .int .u8 38, .int .u8 29, .int .u8 17, .int .u8 4, .int .u8 62, .int .u8 47, .int .u8 59, .int .u8 36, .int .u8 45, .int .u8 43, .int .u8 51, .int .u8 22, .int .u8 53, .int .u8 39, .int .u8 33, .int .u8 30, .int .u8 24, .int .u8 18, .int .u8 12, .int .u8 5, .int .u8 63, .int .u8 55, .int .u8 48, .int .u8 27, .int .u8 60, .int .u8 41, .int .u8 37, .int .u8 16, .int .u8 46, .int .u8 35, .int .u8 44, .int .u8 21, .int .u8 52, .int .u8 32, .int .u8 23, .int .u8 11, .int .u8 54, .int .u8 26, .int .u8 40, .int .u8 15, .int .u8 34, .int .u8 20, .int .u8 31, .int .u8 10, .int .u8 25, .int .u8 14, .int .u8 19, .int .u8 9, .int .u8 13, .int .u8 8, .int .u8 7, .int .u8 6]}
theorem G6(os:Os):laidMet Tryz.prog Rows.caliperNumbersRow.laid ((rY os).forCall (λ_ _=>0) ⟨#[],wit,[]⟩).memory:=
 laidMet_of_run' 8 (by kernel_rfl) (by kernel_rfl)
theorem reads(os:Os){H:Type}(enc:TypeId×Value->H):∃places,DataW.whole enc Tryz.prog ((rY os).forCall (λ_ _=>0) ⟨#[],wit,[]⟩).memory Tryz.f3.params.toList Rows.caliperNumbersSpec.vars false wit.toList 8=
 some ([.agg [.nil, .nil, .lit (.int .i64 0)], .nil],[],places):=
 ⟨[],by kernel_rfl⟩
theorem lifted(os:Os)(started:os.Started)(H:Type)(enc:TypeId×Value->H)(F:Stop.Interp):
 ReturnsInHanded {} Tryz.checked os 3 .any ((OpenSpec.ofChange Rows.caliperNumbersSpec).preRow enc Tryz.prog Tryz.f3 Rows.caliperNumbersRow.domain false Rows.caliperNumbersRow.laid) (((OpenSpec.ofChange Rows.caliperNumbersSpec).at F).post enc Tryz.prog Tryz.f3 false true false false):=by
 obtain⟨places,hx⟩:=reads os enc
 refine returnsInHanded_of_row (C:=Tryz.checked) (s:=OpenSpec.ofChange Rows.caliperNumbersSpec) own started (by kernel_rfl) Tryz.func3
  (witness_row_atRef (enc:=enc) (C:=Tryz.checked) false (rY os) wit rfl (by kernel_rfl) (by kernel_rfl) (by kernel_rfl)
    (OpenSpec.preRow_of_cond 8 hx (by kernel_rfl) (λk hk=>by cases hk) (by kernel_rfl) (G6 os))) ?_
 intro W base args ds gs before hval hW _ _ hz h1 _ _;exact contract H enc W base args ds gs before hval hW hz (L6 h1)
theorem Qi:(Rows.caliperNumbersRow.inPlace==Tryz.prog.inPlace 3)=true:=by kernel_rfl
theorem Qj:(Rows.caliperNumbersRow.unfollowed==Tryz.prog.unfollowed 3)=true:=by kernel_rfl
theorem Qk:(Rows.caliperNumbersRow.recurses==Tryz.prog.recurses 3)=true:=by kernel_rfl
theorem Ql:(Rows.caliperNumbersRow.named==Tryz.prog.varsNamed 3)=true:=by kernel_rfl
theorem closed:joinedFacts Tryz.prog 3 Tryz.f3 (OpenSpec.ofChange Rows.caliperNumbersSpec).bare Rows.caliperNumbersRow=true:=by
 unfold joinedFacts;simp only[Bool.and_eq_true]
 and_intros
 ·kernel_rfl
 ·exact laidOut
 ·exact QI
 ·kernel_rfl
 ·kernel_rfl
 ·kernel_rfl
 ·exact OT
 ·kernel_rfl
 ·exact NC
 ·exact Qi
 ·exact Qj
 ·exact Qk
 ·exact Ql
 iterate 9 kernel_rfl
 ·exact keys
 ·kernel_rfl
 ·exact heard
 ·exact enter
 ·exact lift
 ·exact make
 all_goals kernel_rfl
theorem said:Rows.CaliperNumbersSaid:=
 OpenClaim.holds_of_cond 3 Tryz.f3 rfl rfl rfl rfl rfl rfl rfl ⟨rfl,rfl,rfl,rfl,rfl⟩ rfl rfl rfl rfl rfl (by kernel_rfl) Tryz.func3 closed
  (of_decide_eq_true (by kernel_rfl)) (by unfold Func.isWrapper;first|(rw[if_pos (by decide +kernel)];kernel_rfl)|(rw[if_neg (by decide +kernel)];exact⟨rfl,rfl⟩))
  (λos started H enc _ F=>by rw[OpenClaim.pre_eq_preRow];exact lifted os started H enc F)
theorem plain(f:FuncId)(fn:Func)(hf:Tryz.pinned.checked.prog.funcNamed "strickle/stricklelaw08.CaliperNumbers" =some f)(hfn:Tryz.pinned.checked.prog.funcs[f]? =some fn):
 true=Tryz.pinned.checked.prog.looks []/\∀(j:Nat) t,fn.params[j]? =some t->Tryz.pinned.checked.prog.wantsStandIn t=false:=by
 obtain rfl:f=3:=Option.some.inj ((show Tryz.prog.funcNamed "strickle/stricklelaw08.CaliperNumbers" =some 3 by kernel_rfl).symm.trans hf)|>.symm
 obtain rfl:fn=Tryz.f3:=(Option.some.inj (Tryz.func3.symm.trans hfn)).symm;refine⟨NH,λj t ht=> ?_⟩;have h:(Tryz.f3.params.toList.all λt=> !Tryz.prog.wantsStandIn t)=true:=by kernel_rfl
 have:=List.all_eq_true.1 h t (List.mem_of_getElem? (by simpa using ht));exact(show Tryz.prog.wantsStandIn t=false by simpa using this)
theorem Qs:false=Rows.caliperNumbersRow.goesBy Tryz.prog:=by kernel_rfl
theorem card:Rows.CaliperNumbersCardSaid:=
 Claim7.holds_tied_plain_at .later [] _ _ _ _ said (λ_ h=>by cases h) (by kernel_rfl) (λ_ h=>by cases h) caliperNumbers_row_tie rfl ⟨rfl,rfl⟩ (by kernel_rfl) rfl plain Qs
end Go.Proofs.YtalmahakphchfaaGreatDoor.caliperNumbers
