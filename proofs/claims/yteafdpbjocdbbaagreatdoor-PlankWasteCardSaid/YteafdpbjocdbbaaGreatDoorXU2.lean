/- Walks of functions, plain laws, the table. -/
import Derived.Test.YteafdpbjocdbbaaGreatDoorXU1
import Derived.Test.YteafdpbjocdbbaaGreatDoorXF
import Derived.Test.YteafdpbjocdbbaaGreatDoorXD
set_option linter.all false
section
set_option maxRecDepth 100000
namespace Go.A.Pk
variable {T:Nat→Option AFunc}
theorem first_node{h:Heap}{b o n:Nat}{x:Nat×Int}{ns:List (Nat×Int)}(s:SliceAt h b o n 2 (ncI (x::ns))):∃vs own t,h.get b=some (.cells vs own t)∧ltake 2 (ldrop (o+0*2) vs)=[.int .u8 x.1, .int .i64 x.2]:=by
 obtain⟨vs,own,t,g1,g2⟩:=s.obj
 refine⟨vs,own,t,g1,?_⟩
 have hl:=s.len
 rw[ncI_len]at hl
 have h1:(ltake (n*2) (ldrop o vs)).take 2=[.int .u8 x.1, .int .i64 x.2]:=by rw[g2];rfl
 rw[ltake_eq,ldrop_eq,List.take_take,Nat.min_eq_left (by simp at hl;omega)]at h1
 rw[ltake_eq,ldrop_eq,Nat.zero_mul,Nat.add_zero]
 exact h1
end Go.A.Pk
end
section
set_option maxRecDepth 100000
namespace Go.A.Pk
variable {T:Nat→Option AFunc}
def planS(kerf:Int)(l:List Kd)(p:Int×Int)(ns:List (Nat×Int)):Sm:=if(treeS kerf l 32 p ns).1.ok=true∧(treeS kerf l 32 p ns).2=ns.length then(treeS kerf l 32 p ns).1 else sm0
end Go.A.Pk
end
section
set_option maxRecDepth 100000
namespace Go.A.Pk
variable {T:Nat→Option AFunc}
def Nought(x:Int×Int):Prop:=x.1<1∨x.2<1
instance(x:Int×Int):Decidable (Nought x):=by unfold Nought;infer_instance
def never:Int:= -1099511627776
def leafW(ws:List Int)(kind:Nat)(x:Nat×Nat):Int:=if x.2=kind then ws.getD kind 0 else never
end Go.A.Pk
end
section
set_option maxRecDepth 100000
namespace Go.A.Pk
variable {T:Nat→Option AFunc}
theorem sv_map(a:Option Nat):sameV (.map a) (.map a)=true:=by simp[sameV,same1]
theorem WD.gen{base:Nat}{ops:List AOper}{bf:List Nat}{rs:List Rec}{Q:Env→Heap→Prop}{is:List Nat}{e:Env}{h:Heap}(hK:∀hA,hA=h→WD T base ops bf Q is rs e hA):WD T base ops bf Q is rs e h:=hK h rfl
end Go.A.Pk
end
section
set_option maxRecDepth 100000
namespace Go.A.Pk
variable {T:Nat→Option AFunc}
theorem WE.gen{base:Nat}{rnd:Option Nat}{c:ACode}{Q:XQ}{e:Env}{ds:Dfs}{h:Heap}(hK:∀hA,hA=h→WE T base rnd c Q e ds hA):WE T base rnd c Q e ds h:=hK h rfl
end Go.A.Pk
end
section
set_option maxRecDepth 100000
namespace Go.A.Pk
variable {T:Nat→Option AFunc}
structure YldB (T:Nat→Option AFunc) (lo N l:Nat) (V:Nat×Nat→Value) (all:List (Nat×Nat)) (P:List (Nat×Nat)→Heap→Prop):Prop where
 yields:∀done x H,x∈all→Rdy H→N≤H.next→P done H→FW T (.yield l) [V x] H fun r H'=>r= .ret (.bool true)∧(∀z∈H'.log,lo≤z)∧P (done++[x]) H'
 stable:∀done H H',P done H→N≤H'.next→(∀x,x<N→H'.get x=H.get x)→P done H'
theorem YldB.call(hp:primAS T){lo N l:Nat}{V:Nat×Nat→Value}{all:List (Nat×Nat)}{P:List (Nat×Nat)→Heap→Prop}(Y:YldB T lo N l V all P){base:Nat}{Q:XQ}{e:Env}{ds:Dfs}{h:Heap}{K:Env→Dfs→Heap→Prop}{dst:Option Nat}{done:List (Nat×Nat)}{x:Nat×Nat}(hx:x∈all)(hw:WF h)(hlo:lo≤h.next)(hN:N≤h.next)(hP:P done h)
 (hK:∀h',Lk lo h h'→P (done++[x]) h'→K (dstE e dst (.bool true)) ds h'):FW T (.yield l) [V x] {h with log:=[]} (KO K Q base dst e ds h.log):=by
 refine FW.mono' (FW.withAS hp (Y.yields done x _ hx (.of hw) hN (Y.stable _ _ _ hP hN fun _ _=>rfl)) rfl) ?_
 rintro r h2 ⟨hA,rfl,hl,hq⟩
 have hk:Lk lo {h with log:=[]} h2:=Lk.of_as hA hlo fun z hz=>hl z hz
 exact⟨hK _ hk.call (Y.stable _ _ _ hq (Nat.le_trans hN hA.next) fun _ _=>rfl)⟩
end Go.A.Pk
end
section
set_option maxRecDepth 100000
namespace Go.A
variable {T:Nat→Option AFunc}
structure OwnC (lo:Nat) (h:Heap) (sz:Nat) (v:Value) (n:Nat) (cs:List Value):Prop where
 ex:∃q c,v= .slice (some ⟨q,0,none⟩) n c∧lo≤q∧q<h.next∧h.get q=some (.cells cs true sz)∧cs.length=n*sz∧(c=UNK∨c=n)
theorem OwnC.keep{lo sz n:Nat}{h h':Heap}{v:Value}{cs:List Value}(s:OwnC lo h sz v n cs)(hn:h.next≤h'.next)(ha:∀z,lo≤z→z<h.next→h'.get z=h.get z):OwnC lo h' sz v n cs:=by
 obtain⟨q,c,h1,h2,h3,h4,h5⟩:=s.ex
 exact⟨q,c,h1,h2,by omega,(ha _ h2 h3).trans h4,h5⟩
theorem OwnC.low{lo lo' sz n:Nat}{h:Heap}{v:Value}{cs:List Value}(s:OwnC lo h sz v n cs)(hl:lo'≤lo):OwnC lo' h sz v n cs:=by
 obtain⟨q,c,h1,h2,h3⟩:=s.ex
 exact⟨q,c,h1,by omega,h3⟩
theorem OwnC.slice{lo sz n:Nat}{h:Heap}{v:Value}{cs:List Value}(s:OwnC lo h sz v n cs)(hn:n<4000000):SliceOf h sz v n cs:=by
 obtain⟨q,c,rfl,h2,h3,h4,h5,h6⟩:=s.ex
 refine .mem ⟨h3,⟨_,_,_,h4,?_⟩,h5⟩ (by unfold UNK at h6;omega)
 rw[ltake_eq,ldrop_eq,List.drop_zero,List.take_of_length_le (by omega)]
end Go.A
namespace Go.A.Pk
variable {T:Nat→Option AFunc}
end Go.A.Pk
end
section
namespace Go.A.Pk
def ShF(kerf:Int)(ws:List Int)(kl:List Kd):Nat→Int×Int→Int
 |0,p=>if 1≤p.1∧1≤p.2 then leafM ws (leavesL p.1.toNat p.2.toNat kl 0) 0 else 0
 |d+1,p=>if 1≤p.1∧1≤p.2 then foldM (fun x=>ShF kerf ws kl d (oneB x p.1.toNat p.2.toNat)+ShF kerf ws kl d (twoB kerf x p.1.toNat p.2.toNat)) (cutsL p.1.toNat p.2.toNat) (ShF kerf ws kl d p)else 0
theorem ShF_out{kerf:Int}{ws:List Int}{kl:List Kd}{p:Int×Int}(h:¬ (1≤p.1∧1≤p.2)):∀d,ShF kerf ws kl d p=0
 |0=>if_neg h
 |_+1=>if_neg h
theorem ShF_zero{kerf:Int}{ws:List Int}{kl:List Kd}{a b:Nat}(ha:1≤a)(hb:1≤b):ShF kerf ws kl 0 ((a:Int),(b:Int))=leafM ws (leavesL a b kl 0) 0:=if_pos (by dsimp only;omega)
theorem ShF_succ{kerf:Int}{ws:List Int}{kl:List Kd}{a b:Nat}(ha:1≤a)(hb:1≤b)(d:Nat):ShF kerf ws kl (d+1) ((a:Int),(b:Int))=foldM (fun x=>ShF kerf ws kl d (oneB x a b)+ShF kerf ws kl d (twoB kerf x a b)) (cutsL a b) (ShF kerf ws kl d ((a:Int),(b:Int))):=if_pos (by dsimp only;omega)
theorem leafM_ge{ws:List Int}{ys:List (Nat×Nat)}{m:Int}:m≤leafM ws ys m∧∀y∈ys,ws.getD y.2 0≤leafM ws ys m:=foldM_ge (f:=fun y:Nat×Nat=>ws.getD y.2 0)
theorem ShF_mono{kerf:Int}{ws:List Int}{kl:List Kd}(d:Nat)(p:Int×Int):ShF kerf ws kl d p≤ShF kerf ws kl (d+1) p:=by
 by_cases h:1≤p.1∧1≤p.2
 ·rw[show ShF kerf ws kl (d+1) p=_ from if_pos h]
  exact foldM_ge.1
 ·rw[ShF_out h,ShF_out h];exact Int.le_refl _
theorem ShF_monos{kerf:Int}{ws:List Int}{kl:List Kd}{d e:Nat}(h:d≤e)(p:Int×Int):ShF kerf ws kl d p≤ShF kerf ws kl e p:=by
 induction h with
 |refl=>exact Int.le_refl _
 |step _ ih=>exact Int.le_trans ih (ShF_mono _ _)
theorem ShF_le{kerf:Int}(hk:0≤kerf){ws:List Int}{kl:List Kd}:∀(d:Nat) (p:Int×Int),ShF kerf ws kl d p≤V kerf ws kl p:=by
 intro d
 induction d with
 |zero=>
  intro p
  by_cases h:1≤p.1∧1≤p.2
  ·obtain⟨y1,y2⟩:=p
   obtain⟨a,rfl⟩:=Int.eq_ofNat_of_zero_le (show 0≤y1 by dsimp only at h;omega)
   obtain⟨b,rfl⟩:=Int.eq_ofNat_of_zero_le (show 0≤y2 by dsimp only at h;omega)
   dsimp only at h
   rw[ShF_zero (by omega) (by omega),V_eq hk (by omega) (by omega)]
   exact foldM_ge.1
  ·rw[ShF_out h,V_out h];exact Int.le_refl _
 |succ d ih=>
  intro p
  by_cases h:1≤p.1∧1≤p.2
  ·obtain⟨y1,y2⟩:=p
   obtain⟨a,rfl⟩:=Int.eq_ofNat_of_zero_le (show 0≤y1 by dsimp only at h;omega)
   obtain⟨b,rfl⟩:=Int.eq_ofNat_of_zero_le (show 0≤y2 by dsimp only at h;omega)
   dsimp only at h
   rw[ShF_succ (by omega) (by omega)]
   refine foldM_le (ih _) fun x hx=> ?_
   rw[V_eq hk (by omega) (by omega)]
   have h1:=ih (oneB x a b)
   have h2:=ih (twoB kerf x a b)
   have:=(foldM_ge (f:=fun x=>V kerf ws kl (oneB x a b)+V kerf ws kl (twoB kerf x a b)) (xs:=cutsL a b) (m:=leafM ws (leavesL a b kl 0) 0)).2 x hx
   omega
  ·rw[ShF_out h,V_out h];exact Int.le_refl _
theorem ShF_nonneg{kerf:Int}{ws:List Int}{kl:List Kd}(d:Nat)(p:Int×Int):0≤ShF kerf ws kl d p:=by
 refine Int.le_trans ?_ (ShF_monos (Nat.zero_le d) p)
 by_cases h:1≤p.1∧1≤p.2
 ·rw[show ShF kerf ws kl 0 p=_ from if_pos h];exact leafM_ge.1
 ·rw[ShF_out h];exact Int.le_refl _
end Go.A.Pk
end
section
set_option maxRecDepth 100000
namespace Go.A.Pk
variable {T:Nat→Option AFunc}
structure FnsNd (T:Nat→Option AFunc):Prop extends FnsC T where
 f106:T 106=some f106
 f125:T 125=some f125
 f143:T 143=some f143
 f145:T 145=some f145
 f169:T 169=some f169
 f170:T 170=some f170
 f171:T 171=some f171
 f172:T 172=some f172
 f173:T 173=some f173
theorem in77E(hp:primAS T)(hf:T 77=some f77){h:Heap}(hr:Rdy h){n a b:Int}:Pu T 77 [.int .i64 n, .int .i64 a, .int .i64 b] h (.bool (decide (a≤n∧n≤b))):=by
 by_cases q:a≤n∧n≤b
 ·rw[decide_eq_true q];exact in77T hp hf hr q
 ·rw[decide_eq_false q];exact in77F hp hf hr q
def nodeI(x:Nat×Int):Value:= .agg #[.int .u8 (x.1:Nat), .int .i64 x.2]
def badV:Value:= .iface 182 (.agg #[])
theorem need_ok(F:FnsNd T){h:Heap}(hr:Rdy h):Pu T 145 [.bool true] h (.tuple #[]):=by
 refine .of F.toFnsC.p F.f145 hr rfl ?_
 refine y4 ?_;refine yM ?_;refine yA ?_;refine y3 ?_;refine yX ?_;refine wE_skip ?_
 exact⟨⟨.inl rfl,rfl,hr.log,[],rfl,rfl⟩⟩
theorem need_no(F:FnsNd T){h:Heap}:CW T 145 [.bool false] h fun r h'=>r= .panic badV∧h'=h:=by
 refine CW.code F.f145 (WE.ok ?_)
 refine y4 ?_;refine yM ?_;refine yA ?_;refine y3 ?_;refine yY ?_;refine wE_region ?_;refine wO_val (a_build (by exact rfl)) ?_
 refine wO_val (show aop h h.next _ (.mkIface 182 (.tmp 4))=some (.val (.iface 182 (.agg #[])) h)from rfl) ?_
 refine wO_panic (show aop h h.next _ (.pnic (.tmp 5))=some (.panic badV h)from rfl) ?_
 exact kR_p ⟨rfl,rfl⟩
theorem asks143(F:FnsNd T){h:Heap}(hr:Rdy h):Pu T 143 [] h (.agg #[.func (.func 169) #[] #[], .func (.func 170) #[] #[], .func (.func 171) #[] #[], .func (.func 172) #[] #[], .func (.func 173) #[] #[]]):=by
 refine .of F.toFnsC.p F.f143 hr rfl ?_
 refine y4 ?_;refine wO_val a_new ?_;refine y3 ?_;refine y4 ?_;refine wO_val (a_build (by exact rfl)) ?_
 refine yS ?_;refine y3 ?_;refine wE_ret ?_
 exact endP_ret ((Heap.log_wr_new (Nat.le_refl _)).trans hr.log) (res_cells (b:=h.next) rfl (by(simp(disch:=first|omega|(simp only[z1,z2];omega))only[z3,z4,z5,z6,z7,z1,z2, *];exact rfl)) rfl rfl res_nil) rfl
theorem nothing125n(F:FnsNd T){h:Heap}(hr:Rdy h)(x:Int×Int):Pu T 125 [pairV x] h (.bool (decide (x.1<1∨x.2<1))):=by
 refine .of F.toFnsC.p F.f125 hr rfl ?_
 by_cases c1:x.1<1
 ·rw[decide_eq_true (show x.1<1∨x.2<1 from .inl c1)]
  unfold pairV
  refine y4 ?_;refine yB ?_;refine yM ?_;refine y3 ?_;refine y4 ?_;refine wO_val (a_iaddrA (i:=0) (by exact rfl) (by exact rfl) (by omega)) ?_
  refine yL ?_;refine yt ?_
  refine yM ?_;refine yP ?_;refine yP ?_;refine yP ?_;refine yT ?_;refine yM ?_;refine y3 ?_;refine wE_ret ?_
  exact endP_ret hr.log rfl rfl
 ·by_cases c2:x.2<1
  ·rw[decide_eq_true (show x.1<1∨x.2<1 from .inr c2)]
   unfold pairV
   refine y4 ?_;refine yB ?_;refine yM ?_;refine y3 ?_;refine y4 ?_;refine wO_val (a_iaddrA (i:=0) (by exact rfl) (by exact rfl) (by omega)) ?_
   refine yL ?_;refine yf ?_
   refine yM ?_;refine yO ?_;refine wO_val (a_iaddrA (i:=1) (by exact rfl) (by exact rfl) (by omega)) ?_;refine yO ?_
   refine yL ?_;refine yO ?_;refine yt ?_
   refine yU ?_;refine yM ?_;refine y3 ?_;refine wE_ret ?_
   exact endP_ret hr.log rfl rfl
  ·rw[decide_eq_false (show¬ (x.1<1∨x.2<1)from fun q=>q.elim c1 c2)]
   unfold pairV
   refine y4 ?_;refine yB ?_;refine yM ?_;refine y3 ?_;refine y4 ?_;refine wO_val (a_iaddrA (i:=0) (by exact rfl) (by exact rfl) (by omega)) ?_
   refine yL ?_;refine yf ?_
   refine yM ?_;refine yO ?_;refine wO_val (a_iaddrA (i:=1) (by exact rfl) (by exact rfl) (by omega)) ?_;refine yO ?_
   refine yL ?_;refine yO ?_;refine yf ?_
   refine yU ?_;refine yM ?_;refine y3 ?_;refine wE_ret ?_
   exact endP_ret hr.log rfl rfl
theorem isWaste169(F:FnsNd T){h:Heap}(hr:Rdy h)(q:Option Addr)(p:Int×Int)(x:Nat×Int):Pu T 169 [.pointer q,pairV p,nodeI x] h (.bool (decide (x.2=0))):=by
 refine .of F.toFnsC.p F.f169 hr rfl ?_
 obtain⟨p1,p2⟩:=p
 obtain⟨x1,x2⟩:=x
 unfold pairV nodeI
 by_cases hz:x2=0
 ·rw[decide_eq_true hz]
  refine y4 ?_;refine yB ?_;refine yB ?_;refine yM ?_;refine y3 ?_;refine y4 ?_
  refine yF ?_;refine yL ?_
  refine yt ?_;refine yM ?_;refine y3 ?_;refine wE_ret ?_
  exact endP_ret hr.log rfl rfl
 ·rw[decide_eq_false hz]
  refine y4 ?_;refine yB ?_;refine yB ?_;refine yM ?_;refine y3 ?_;refine y4 ?_
  refine yF ?_;refine yL ?_
  refine yf ?_;refine yM ?_;refine y3 ?_;refine wE_ret ?_
  exact endP_ret hr.log rfl rfl
theorem isAcross172(F:FnsNd T){h:Heap}(hr:Rdy h)(q:Option Addr)(p:Int×Int)(x:Nat×Int)(h1:1≤p.1∧p.1≤16):Pu T 172 [.pointer q,pairV p,nodeI x] h (.bool (decide (1≤x.2∧x.2≤p.1-1))):=by
 refine .of F.toFnsC.p F.f172 hr rfl ?_
 have hx:Ext h ((h.push (.cells [.int .i64 p.1, .int .i64 p.2] true 1)).push (.cells [.int .u8 x.1, .int .i64 x.2] true 1)):=((Ext.refl h).push _).push _
 obtain⟨p1,p2⟩:=p
 obtain⟨x1,x2⟩:=x
 dsimp only at h1 hx⊢
 unfold pairV nodeI
 have C:=in77E F.toFnsC.p F.toFnsC.f77 (.of (hx.wf hr.wf)) (n:=x2) (a:=1) (b:=p1-1)
 refine y4 ?_;refine yB ?_;refine yB ?_;refine yM ?_;refine y3 ?_;refine y4 ?_
 refine yF ?_;refine yL ?_
 refine wO_val (a_iaddrA (i:=0) (by exact rfl) (by exact rfl) (by omega)) ?_;refine yL ?_
 refine ysub ?_
 refine yC ?_
 refine FW.pu C ?_
 refine yM ?_;refine y3 ?_;refine wE_ret ?_
 exact endP_ret hr.log rfl rfl
theorem isAlong173(F:FnsNd T){h:Heap}(hr:Rdy h)(q:Option Addr)(p:Int×Int)(x:Nat×Int)(h1:1≤p.2∧p.2≤16):Pu T 173 [.pointer q,pairV p,nodeI x] h (.bool (decide (1≤x.2∧x.2≤p.2-1))):=by
 refine .of F.toFnsC.p F.f173 hr rfl ?_
 have hx:Ext h ((h.push (.cells [.int .i64 p.1, .int .i64 p.2] true 1)).push (.cells [.int .u8 x.1, .int .i64 x.2] true 1)):=((Ext.refl h).push _).push _
 obtain⟨p1,p2⟩:=p
 obtain⟨x1,x2⟩:=x
 dsimp only at h1 hx⊢
 unfold pairV nodeI
 have C:=in77E F.toFnsC.p F.toFnsC.f77 (.of (hx.wf hr.wf)) (n:=x2) (a:=1) (b:=p2-1)
 refine y4 ?_;refine yB ?_;refine yB ?_;refine yM ?_;refine y3 ?_;refine y4 ?_
 refine yF ?_;refine yL ?_
 refine wO_val (a_iaddrA (i:=1) (by exact rfl) (by exact rfl) (by omega)) ?_;refine yL ?_
 refine ysub ?_
 refine yC ?_
 refine FW.pu C ?_
 refine yM ?_;refine y3 ?_;refine wE_ret ?_
 exact endP_ret hr.log rfl rfl
end Go.A.Pk
end
section
set_option maxRecDepth 100000
namespace Go.A.Pk
variable {T:Nat→Option AFunc}
theorem plank_no{l:List Kd}{kind:Nat}{x2:Int}{p:Int×Int}(h:¬ (0≤x2∧x2<(l.length:Int))):(plankS l (kind,x2) p).1.ok=false:=by
 unfold plankS
 rw[if_neg (by dsimp only;omega)]
 rfl
theorem plank_at{l:List Kd}{kind i:Nat}{k:Kd}{p:Int×Int}(h:l[i]? =some k):(plankS l (kind,(i:Int)) p).1.ok=decide (isP k kind p):=by
 have hi:i<l.length:=(List.getElem?_eq_some_iff.1 h).1
 unfold plankS
 rw[if_pos (by dsimp only;omega),Int.toNat_natCast,h]
set_option maxHeartbeats 16000000 in
theorem isPlank170(F:FnsNd T){h:Heap}(hr:Rdy h){bb n c:Nat}{sa:Option Addr}{wv:Value}{kerf:Int}{l:List Kd}(gb:h.get bb=some (.cells [.slice sa n c, .int .i64 kerf,wv] true 1))(hs:SliceOf h 5 (.slice sa n c) n (kcs l))(hn:n<1000)(p:Int×Int)(x:Nat×Int):
 Pu T 170 [.pointer (some ⟨bb,0,none⟩),pairV p,nodeI x] h (.bool (plankS l (1,x.2) p).1.ok):=by
 refine .of F.toFnsC.p F.f170 hr rfl ?_
 have hx:Ext h ((h.push (.cells [.int .i64 p.1, .int .i64 p.2] true 1)).push (.cells [.int .u8 x.1, .int .i64 x.2] true 1)):=((Ext.refl h).push _).push _
 have kb:=WF.get_lt hr.wf gb
 obtain rfl:n=l.length:=by have:=hs.len;rw[kcs_length]at this;omega
 obtain⟨p1,p2⟩:=p
 obtain⟨x1,x2⟩:=x
 dsimp only at hx⊢
 unfold pairV nodeI
 have C:=isKind97 F.toFnsC (.of (hx.wf hr.wf)) (a:=sa) (n:=l.length) (c:=c) kerf x2 (by omega)
 by_cases hk:0≤x2∧x2<(l.length:Int)
 ·rw[decide_eq_true hk]at C
  obtain⟨i,rfl⟩:=Int.eq_ofNat_of_zero_le hk.1
  have hi:i<l.length:=by omega
  obtain⟨k,hkl⟩:∃k,l[i]? =some k:=⟨l[i],List.getElem?_eq_getElem hi⟩
  rw[plank_at hkl]
  rcases hs.inv with⟨_,_,h0,_⟩|⟨b,o,cap',hv,s,hcap⟩
  ·omega
  ·cases hv
   obtain⟨vs,own,t,g1,g2⟩:=slice_elem s hkl
   have kb1:=WF.get_lt hr.wf g1
   have e1:lget vs (o+i*5+1)=some (.int .i64 k.w):=by rw[elem_get g2 1 (by omega)];rfl
   have e2:lget vs (o+i*5+2)=some (.int .i64 k.h):=by rw[elem_get g2 2 (by omega)];rfl
   have L1:=leaves2 p1 p2 k.w k.h
   have hz:decide (isP k 1 (p1,p2))=decide (p1=k.w∧p2=k.h):=by
    by_cases q:p1=k.w∧p2=k.h
    ·rw[decide_eq_true q,decide_eq_true];exact .inl ⟨rfl,q.1.symm,q.2.symm⟩
    ·rw[decide_eq_false q,decide_eq_false]
     rintro(⟨_,a1,a2⟩|⟨a1,_⟩)
     ·exact q ⟨a1.symm,a2.symm⟩
     ·cases a1
   rw[hz]
   generalize decide (p1=k.w∧p2=k.h)=bv at*
   clear hz g2 hkl
   refine y4 ?_;refine yB ?_;refine yB ?_;refine yM ?_;refine y3 ?_;refine wE_seq ?_;refine wE_draw ?_
   refine qM ?_;refine wD_quiet rfl rfl rfl (by exact rfl) (by exact rfl) (by exact rfl) (a_nilchk (by exact rfl)) ?_;refine qF ?_
   refine qN ?_
   refine qF ?_
   refine qL ?_
   refine qC ?_
   refine FW.puD C (by apply ra_dropC rfl;apply ra_dropC rfl;apply ra_dropC rfl;apply ra_dropC rfl;apply ra_dropC rfl;apply ra_dropC rfl;exact ra_nil) ?_
   clear C
   refine qM ?_
   refine qN ?_
   refine qM ?_;refine wD_quiet rfl rfl rfl (by exact rfl) (by exact rfl) (by exact rfl) (a_nilchk (by exact rfl)) ?_;refine qF ?_
   refine qF ?_
   refine qL ?_
   refine qF ?_
   refine qL ?_
   refine wD_quiet rfl rfl rfl (by exact rfl) (by exact rfl) (by exact rfl) (a_iaddrS (by exact rfl) (by exact rfl) (by omega)) ?_;refine qF ?_
   refine wD_quiet rfl rfl rfl (by exact rfl) (by exact rfl) (by exact rfl) (a_load (by exact rfl) (by(simp(disch:=first|omega|(simp only[z1,z2];omega))only[z3,z4,z5,z6,z7,z1,z2, *];exact rfl)) (by assumption)) ?_
   refine qM ?_;refine wD_quiet rfl rfl rfl (by exact rfl) (by exact rfl) (by exact rfl) (a_nilchk (by exact rfl)) ?_;refine qF ?_
   refine qF ?_
   refine qL ?_
   refine qF ?_
   refine qL ?_
   refine wD_quiet rfl rfl rfl (by exact rfl) (by exact rfl) (by exact rfl) (a_iaddrS (by exact rfl) (by exact rfl) (by omega)) ?_;refine qF ?_
   refine wD_quiet rfl rfl rfl (by exact rfl) (by exact rfl) (by exact rfl) (a_load (by exact rfl) (by(simp(disch:=first|omega|(simp only[z1,z2];omega))only[z3,z4,z5,z6,z7,z1,z2, *];exact rfl)) (by assumption)) ?_
   refine wD_quiet rfl rfl rfl (by exact rfl) (by exact rfl) (by exact rfl) (a_build (by exact rfl)) ?_
   refine wD_quiet rfl rfl rfl (by exact rfl) (by exact rfl) (by exact rfl) (a_agg (b:=bv) (by exact rfl) (by exact rfl) L1) ?_
   refine wD_quiet rfl rfl rfl (by exact rfl) (by exact rfl) (by exact rfl) (a_pickT (by exact rfl) (by exact rfl)) ?_;refine qM ?_;refine wD_nil ?_;refine y1 ?_;refine kS_n ?_;refine wE_ret ?_
   exact endP_ret hr.log rfl rfl
 ·rw[decide_eq_false hk]at C
  rw[plank_no hk]
  refine y4 ?_;refine yB ?_;refine yB ?_;refine yM ?_;refine y3 ?_;refine wE_seq ?_;refine wE_draw ?_
  refine qM ?_;refine wD_quiet rfl rfl rfl (by exact rfl) (by exact rfl) (by exact rfl) (a_nilchk (by exact rfl)) ?_;refine qF ?_
  refine qN ?_
  refine qF ?_
  refine qL ?_
  refine qC ?_
  refine FW.puD C (by apply ra_dropC rfl;apply ra_dropC rfl;apply ra_dropC rfl;apply ra_dropC rfl;apply ra_dropC rfl;apply ra_dropC rfl;exact ra_nil) ?_
  clear C
  refine qM ?_;refine wD_off rfl rfl rfl (by exact rfl) ?_;refine wD_off rfl rfl rfl (by exact rfl) ?_;refine wD_off rfl rfl rfl (by exact rfl) ?_;refine wD_off rfl rfl rfl (by exact rfl) ?_;refine wD_off rfl rfl rfl (by exact rfl) ?_;refine wD_off rfl rfl rfl (by exact rfl) ?_
  refine wD_off rfl rfl rfl (by exact rfl) ?_;refine wD_off rfl rfl rfl (by exact rfl) ?_;refine wD_off rfl rfl rfl (by exact rfl) ?_;refine wD_off rfl rfl rfl (by exact rfl) ?_;refine wD_off rfl rfl rfl (by exact rfl) ?_;refine wD_off rfl rfl rfl (by exact rfl) ?_;refine wD_off rfl rfl rfl (by exact rfl) ?_;refine wD_off rfl rfl rfl (by exact rfl) ?_
  refine wD_off rfl rfl rfl (by exact rfl) ?_;refine wD_off rfl rfl rfl (by exact rfl) ?_;refine wD_off rfl rfl rfl (by exact rfl) ?_;refine wD_off rfl rfl rfl (by exact rfl) ?_;refine wD_off rfl rfl rfl (by exact rfl) ?_;refine wD_off rfl rfl rfl (by exact rfl) ?_;refine wD_off rfl rfl rfl (by exact rfl) ?_;refine wD_off rfl rfl rfl (by exact rfl) ?_
  refine wD_off rfl rfl rfl (by exact rfl) ?_;refine wD_quiet rfl rfl rfl (by exact rfl) (by exact rfl) (by exact rfl) (a_pickF (by exact rfl) (by exact rfl)) ?_;refine qM ?_;refine wD_nil ?_;refine y1 ?_;refine kS_n ?_
  refine wE_ret ?_
  exact endP_ret hr.log rfl rfl
set_option maxHeartbeats 16000000 in
theorem isTurned171(F:FnsNd T){h:Heap}(hr:Rdy h){bb n c:Nat}{sa:Option Addr}{wv:Value}{kerf:Int}{l:List Kd}(gb:h.get bb=some (.cells [.slice sa n c, .int .i64 kerf,wv] true 1))(hs:SliceOf h 5 (.slice sa n c) n (kcs l))(hn:n<1000)(p:Int×Int)(x:Nat×Int):
 Pu T 171 [.pointer (some ⟨bb,0,none⟩),pairV p,nodeI x] h (.bool (plankS l (2,x.2) p).1.ok):=by
 refine .of F.toFnsC.p F.f171 hr rfl ?_
 have hx:Ext h ((h.push (.cells [.int .i64 p.1, .int .i64 p.2] true 1)).push (.cells [.int .u8 x.1, .int .i64 x.2] true 1)):=((Ext.refl h).push _).push _
 have kb:=WF.get_lt hr.wf gb
 obtain rfl:n=l.length:=by have:=hs.len;rw[kcs_length]at this;omega
 obtain⟨p1,p2⟩:=p
 obtain⟨x1,x2⟩:=x
 dsimp only at hx⊢
 unfold pairV nodeI
 have C:=isKind97 F.toFnsC (.of (hx.wf hr.wf)) (a:=sa) (n:=l.length) (c:=c) kerf x2 (by omega)
 by_cases hk:0≤x2∧x2<(l.length:Int)
 ·rw[decide_eq_true hk]at C
  obtain⟨i,rfl⟩:=Int.eq_ofNat_of_zero_le hk.1
  have hi:i<l.length:=by omega
  obtain⟨k,hkl⟩:∃k,l[i]? =some k:=⟨l[i],List.getElem?_eq_getElem hi⟩
  rw[plank_at hkl]
  rcases hs.inv with⟨_,_,h0,_⟩|⟨b,o,cap',hv,s,hcap⟩
  ·omega
  ·cases hv
   obtain⟨vs,own,t,g1,g2⟩:=slice_elem s hkl
   have kb1:=WF.get_lt hr.wf g1
   have e1:lget vs (o+i*5+1)=some (.int .i64 k.w):=by rw[elem_get g2 1 (by omega)];rfl
   have e2:lget vs (o+i*5+2)=some (.int .i64 k.h):=by rw[elem_get g2 2 (by omega)];rfl
   have e4:lget vs (o+i*5+4)=some (.bool k.turn):=by rw[elem_get g2 4 (by omega)];rfl
   have L1:=leaves2 p1 p2 k.h k.w
   have hz:decide (isP k 2 (p1,p2))=(k.turn&&decide (p1=k.h∧p2=k.w)):=by
    by_cases q:k.turn=true∧p1=k.h∧p2=k.w
    ·rw[q.1,decide_eq_true q.2,decide_eq_true]
     ·rfl
     ·exact .inr ⟨rfl,q.1,q.2.1.symm,q.2.2.symm⟩
    ·rw[decide_eq_false]
     ·cases ht:k.turn with
      |false=>rfl
      |true=>rw[decide_eq_false fun r=>q ⟨ht,r⟩];rfl
     ·rintro(⟨a1,_⟩|⟨_,a1,a2,a3⟩)
      ·cases a1
      ·exact q ⟨a1,a2.symm,a3.symm⟩
   rw[hz]
   generalize decide (p1=k.h∧p2=k.w)=bv at*
   generalize k.turn=tu at*
   clear hz g2 hkl
   refine y4 ?_;refine yB ?_;refine yB ?_;refine yM ?_;refine y3 ?_;refine wE_seq ?_;refine wE_draw ?_
   refine qM ?_;refine wD_quiet rfl rfl rfl (by exact rfl) (by exact rfl) (by exact rfl) (a_nilchk (by exact rfl)) ?_;refine qF ?_
   refine qN ?_
   refine qF ?_
   refine qL ?_
   refine qC ?_
   refine FW.puD C (by apply ra_dropC rfl;apply ra_dropC rfl;apply ra_dropC rfl;apply ra_dropC rfl;apply ra_dropC rfl;apply ra_dropC rfl;exact ra_nil) ?_
   clear C
   cases tu with
   |true=>
    refine qM ?_;refine qM ?_;refine wD_quiet rfl rfl rfl (by exact rfl) (by exact rfl) (by exact rfl) (a_nilchk (by exact rfl)) ?_
    refine qF ?_;refine qF ?_
    refine qL ?_
    refine qF ?_
    refine qL ?_
    refine wD_quiet rfl rfl rfl (by exact rfl) (by exact rfl) (by exact rfl) (a_iaddrS (by exact rfl) (by exact rfl) (by omega)) ?_;refine qF ?_
    refine wD_quiet rfl rfl rfl (by exact rfl) (by exact rfl) (by exact rfl) (a_load (by exact rfl) (by(simp(disch:=first|omega|(simp only[z1,z2];omega))only[z3,z4,z5,z6,z7,z1,z2, *];exact rfl)) (by assumption)) ?_
    refine wD_quiet rfl rfl rfl (by exact rfl) (by exact rfl) (by exact rfl) (a_pickT (by exact rfl) (by exact rfl)) ?_;refine qM ?_
    refine qN ?_
    refine qM ?_;refine wD_quiet rfl rfl rfl (by exact rfl) (by exact rfl) (by exact rfl) (a_nilchk (by exact rfl)) ?_;refine qF ?_
    refine qF ?_
    refine qL ?_
    refine qF ?_
    refine qL ?_
    refine wD_quiet rfl rfl rfl (by exact rfl) (by exact rfl) (by exact rfl) (a_iaddrS (by exact rfl) (by exact rfl) (by omega)) ?_;refine qF ?_
    refine wD_quiet rfl rfl rfl (by exact rfl) (by exact rfl) (by exact rfl) (a_load (by exact rfl) (by(simp(disch:=first|omega|(simp only[z1,z2];omega))only[z3,z4,z5,z6,z7,z1,z2, *];exact rfl)) (by assumption)) ?_
    refine qM ?_;refine wD_quiet rfl rfl rfl (by exact rfl) (by exact rfl) (by exact rfl) (a_nilchk (by exact rfl)) ?_;refine qF ?_
    refine qF ?_
    refine qL ?_
    refine qF ?_
    refine qL ?_
    refine wD_quiet rfl rfl rfl (by exact rfl) (by exact rfl) (by exact rfl) (a_iaddrS (by exact rfl) (by exact rfl) (by omega)) ?_;refine qF ?_
    refine wD_quiet rfl rfl rfl (by exact rfl) (by exact rfl) (by exact rfl) (a_load (by exact rfl) (by(simp(disch:=first|omega|(simp only[z1,z2];omega))only[z3,z4,z5,z6,z7,z1,z2, *];exact rfl)) (by assumption)) ?_
    refine wD_quiet rfl rfl rfl (by exact rfl) (by exact rfl) (by exact rfl) (a_build (by exact rfl)) ?_
    refine wD_quiet rfl rfl rfl (by exact rfl) (by exact rfl) (by exact rfl) (a_agg (b:=bv) (by exact rfl) (by exact rfl) L1) ?_
    refine wD_quiet rfl rfl rfl (by exact rfl) (by exact rfl) (by exact rfl) (a_pickT (by exact rfl) (by exact rfl)) ?_;refine qM ?_;refine wD_nil ?_;refine y1 ?_;refine kS_n ?_;refine wE_ret ?_
    exact endP_ret hr.log rfl rfl
   |false=>
    refine qM ?_;refine qM ?_;refine wD_quiet rfl rfl rfl (by exact rfl) (by exact rfl) (by exact rfl) (a_nilchk (by exact rfl)) ?_
    refine qF ?_;refine qF ?_
    refine qL ?_
    refine qF ?_
    refine qL ?_
    refine wD_quiet rfl rfl rfl (by exact rfl) (by exact rfl) (by exact rfl) (a_iaddrS (by exact rfl) (by exact rfl) (by omega)) ?_;refine qF ?_
    refine wD_quiet rfl rfl rfl (by exact rfl) (by exact rfl) (by exact rfl) (a_load (by exact rfl) (by(simp(disch:=first|omega|(simp only[z1,z2];omega))only[z3,z4,z5,z6,z7,z1,z2, *];exact rfl)) (by assumption)) ?_
    refine wD_quiet rfl rfl rfl (by exact rfl) (by exact rfl) (by exact rfl) (a_pickT (by exact rfl) (by exact rfl)) ?_;refine qM ?_;refine wD_off rfl rfl rfl (by exact rfl) ?_;refine wD_off rfl rfl rfl (by exact rfl) ?_;refine wD_off rfl rfl rfl (by exact rfl) ?_;refine wD_off rfl rfl rfl (by exact rfl) ?_
    refine wD_off rfl rfl rfl (by exact rfl) ?_;refine wD_off rfl rfl rfl (by exact rfl) ?_;refine wD_off rfl rfl rfl (by exact rfl) ?_;refine wD_off rfl rfl rfl (by exact rfl) ?_;refine wD_off rfl rfl rfl (by exact rfl) ?_;refine wD_off rfl rfl rfl (by exact rfl) ?_;refine wD_off rfl rfl rfl (by exact rfl) ?_;refine wD_off rfl rfl rfl (by exact rfl) ?_
    refine wD_off rfl rfl rfl (by exact rfl) ?_;refine wD_off rfl rfl rfl (by exact rfl) ?_;refine wD_off rfl rfl rfl (by exact rfl) ?_;refine wD_off rfl rfl rfl (by exact rfl) ?_;refine wD_off rfl rfl rfl (by exact rfl) ?_;refine wD_off rfl rfl rfl (by exact rfl) ?_;refine wD_off rfl rfl rfl (by exact rfl) ?_;refine wD_off rfl rfl rfl (by exact rfl) ?_
    refine wD_off rfl rfl rfl (by exact rfl) ?_;refine wD_off rfl rfl rfl (by exact rfl) ?_;refine wD_off rfl rfl rfl (by exact rfl) ?_;refine wD_quiet rfl rfl rfl (by exact rfl) (by exact rfl) (by exact rfl) (a_pickF (by exact rfl) (by exact rfl)) ?_;refine qM ?_;refine wD_nil ?_
    refine y1 ?_;refine kS_n ?_;refine wE_ret ?_
    exact endP_ret hr.log rfl rfl
 ·rw[decide_eq_false hk]at C
  rw[plank_no hk]
  refine y4 ?_;refine yB ?_;refine yB ?_;refine yM ?_;refine y3 ?_;refine wE_seq ?_;refine wE_draw ?_
  refine qM ?_;refine wD_quiet rfl rfl rfl (by exact rfl) (by exact rfl) (by exact rfl) (a_nilchk (by exact rfl)) ?_;refine qF ?_
  refine qN ?_
  refine qF ?_
  refine qL ?_
  refine qC ?_
  refine FW.puD C (by apply ra_dropC rfl;apply ra_dropC rfl;apply ra_dropC rfl;apply ra_dropC rfl;apply ra_dropC rfl;apply ra_dropC rfl;exact ra_nil) ?_
  clear C
  refine qM ?_;refine wD_off rfl rfl rfl (by exact rfl) ?_;refine wD_off rfl rfl rfl (by exact rfl) ?_;refine wD_off rfl rfl rfl (by exact rfl) ?_;refine wD_off rfl rfl rfl (by exact rfl) ?_;refine wD_off rfl rfl rfl (by exact rfl) ?_;refine wD_off rfl rfl rfl (by exact rfl) ?_
  refine wD_off rfl rfl rfl (by exact rfl) ?_;refine wD_off rfl rfl rfl (by exact rfl) ?_;refine wD_off rfl rfl rfl (by exact rfl) ?_;refine wD_off rfl rfl rfl (by exact rfl) ?_;refine wD_quiet rfl rfl rfl (by exact rfl) (by exact rfl) (by exact rfl) (a_pickF (by exact rfl) (by exact rfl)) ?_;refine qM ?_
  refine wD_off rfl rfl rfl (by exact rfl) ?_;refine wD_off rfl rfl rfl (by exact rfl) ?_;refine wD_off rfl rfl rfl (by exact rfl) ?_;refine wD_off rfl rfl rfl (by exact rfl) ?_;refine wD_off rfl rfl rfl (by exact rfl) ?_;refine wD_off rfl rfl rfl (by exact rfl) ?_;refine wD_off rfl rfl rfl (by exact rfl) ?_;refine wD_off rfl rfl rfl (by exact rfl) ?_
  refine wD_off rfl rfl rfl (by exact rfl) ?_;refine wD_off rfl rfl rfl (by exact rfl) ?_;refine wD_off rfl rfl rfl (by exact rfl) ?_;refine wD_off rfl rfl rfl (by exact rfl) ?_;refine wD_off rfl rfl rfl (by exact rfl) ?_;refine wD_off rfl rfl rfl (by exact rfl) ?_;refine wD_off rfl rfl rfl (by exact rfl) ?_;refine wD_off rfl rfl rfl (by exact rfl) ?_
  refine wD_off rfl rfl rfl (by exact rfl) ?_;refine wD_off rfl rfl rfl (by exact rfl) ?_;refine wD_off rfl rfl rfl (by exact rfl) ?_;refine wD_off rfl rfl rfl (by exact rfl) ?_;refine wD_off rfl rfl rfl (by exact rfl) ?_;refine wD_off rfl rfl rfl (by exact rfl) ?_;refine wD_off rfl rfl rfl (by exact rfl) ?_
  refine wD_quiet rfl rfl rfl (by exact rfl) (by exact rfl) (by exact rfl) (a_pickF (by exact rfl) (by exact rfl)) ?_;refine qM ?_;refine wD_nil ?_;refine y1 ?_;refine kS_n ?_;refine wE_ret ?_
  exact endP_ret hr.log rfl rfl
end Go.A.Pk
end
section
set_option maxRecDepth 100000
namespace Go.A.Pk
variable {T:Nat→Option AFunc} {base:Nat} {rnd:Option Nat} {Q:XQ} {e:Env} {ds:Dfs} {h:Heap}
structure Rst (S:Nat→Prop) (h:Heap) (v:Value) (ns:List (Nat×Int)):Prop where
 sl:SliceOf h 2 v ns.length (ncI ns)
 u2:U2 h v
 cap:∃qa qc,v= .slice qa ns.length qc∧(qc<UNK∨qc=UNK)
 sep:∀b o n c,v= .slice (some ⟨b,o,none⟩) n c→¬S b∧b<h.next
theorem Rst.keep{S:Nat→Prop}{h h':Heap}{v:Value}{ns:List (Nat×Int)}(r:Rst S h v ns)(hn:h.next≤h'.next)(hg:∀z,z<h.next→¬S z→h'.get z=h.get z):Rst S h' v ns:=by
 obtain⟨r1,r2,r3,r4⟩:=r
 refine⟨?_,fun b o n e=> ?_,r3,fun b o n c e=>⟨(r4 b o n c e).1,Nat.lt_of_lt_of_le (r4 b o n c e).2 hn⟩⟩
 ·rcases r1.inv with⟨c,rfl,h0,h1⟩|⟨b,o,cap,rfl,s,hc⟩
  ·rw[h0,h1];exact .nil
  ·obtain⟨q1,q2⟩:=r4 _ _ _ _ rfl
   obtain⟨vs,own,t,g1,g2⟩:=s.obj
   exact .mem ⟨Nat.lt_of_lt_of_le q2 hn,⟨vs,own,t,(hg _ q2 q1).trans g1,g2⟩,s.len⟩ hc
 ·subst e
  obtain⟨q1,q2⟩:=r4 _ _ _ _ rfl
  obtain⟨vs,own,g⟩:=r2 b o n rfl
  exact⟨vs,own,(hg _ q2 q1).trans g⟩
theorem Rst.log{S:Nat→Prop}{h:Heap}{v:Value}{ns:List (Nat×Int)}(r:Rst S h v ns)(m:List Nat):Rst S {h with log:=m} v ns:=r.keep (h':={h with log:=m}) (Nat.le_refl _) fun _ _ _=>rfl
theorem Rst.ws{S:Nat→Prop}{h h':Heap}{v:Value}{ns:List (Nat×Int)}(r:Rst S h v ns)(w:Ws S h h'):Rst S h' v ns:=r.keep w.next w.old
theorem Rst.ext{S:Nat→Prop}{h h':Heap}{v:Value}{ns:List (Nat×Int)}(r:Rst S h v ns)(w:Ext h h'):Rst S h' v ns:=r.keep w.next fun z hz _=>w.old z hz
theorem wO_slice1{S:Nat→Prop}{os:List AOper}{dst:Option Nat}{a y:Operand}{v:Value}{x:Nat×Int}{ns:List (Nat×Int)}(s:Rst S h v (x::ns))(hlen:ns.length<100000)(hx:ev h e a=some v)(hy:ev h e y=some (.int .i64 (1:Nat)))(hS:∀z,S z→z<h.next)
 (hK:∀v' h',Ext h h'→(∃b o n c,v'= .slice (some ⟨b,o,none⟩) n c)→Rst S h' v' ns→WO T base rnd Q os (dstE e dst v') ds h'):WO T base rnd Q (⟨dst, .slice (.sl 2) a (some y) none none,none⟩::os) e ds h:=by
 obtain⟨r1,r2,⟨qa,qc,hv,hcap⟩,r4⟩:=s
 rcases r1.inv with⟨_,_,hz,_⟩|⟨b,o,cap,hv',s1,hc⟩
 ·simp at hz
 rw[hv']at hv
 injection hv with h1 h2 h3
 subst h1
 subst h3
 subst hv'
 obtain⟨q1,q2⟩:=r4 _ _ _ _ rfl
 obtain⟨vs,own,t,g1,g2⟩:=s1.obj
 have hl2:=s1.len
 simp only[List.length_cons]at g2 hl2 hc hx r2 q2
 have hdrop:ltake (ns.length*2) (ldrop (o+1*2) vs)=ncI ns:=by
  have:(ncI (x::ns)).drop 2=ncI ns:=rfl
  rw[←this,←g2]
  simp only[ltake_eq,ldrop_eq,List.drop_take,List.drop_drop,Nat.one_mul]
  congr 1
  omega
 have hlen':(ncI ns).length=ns.length*2:=ncI_len ns
 by_cases hU:cap=UNK
 ·subst hU
  obtain⟨vs',own',g3⟩:=r2 b o _ rfl
  rw[g1]at g3
  cases g3
  cases ns with
  |nil=>
   refine wO_val (a_slice_end hx hy g1 (by simp)) (hK _ _ ((Ext.refl h).push _) ⟨_,_,_,_,rfl⟩ ⟨?_,fun b' o' n' e'=>by cases e';exact⟨[],false,z3 _ _⟩,⟨_,_,rfl, .inr rfl⟩,fun b' o' n' c' e'=>by cases e';exact⟨fun q=>Nat.lt_irrefl _ (hS _ q),Nat.lt_succ_self _⟩⟩)
   exact .mem ⟨Nat.lt_succ_self _,⟨[],false,2,z3 _ _,rfl⟩,rfl⟩ (Nat.zero_le _)
  |cons y2 ns=>
   have e1:(y2::ns).length+1-1=(y2::ns).length:=by omega
   have A:=a_slice_lo (base:=base) hx hy g1 (show 1<(y2::ns).length+1 by simp)
   rw[e1]at A
   exact wO_val A (hK _ _ (.refl h) ⟨_,_,_,_,rfl⟩ ⟨.mem ⟨s1.lt,⟨vs,own,2,g1,hdrop⟩,hlen'⟩ (by unfold UNK;omega),fun b' o' n' e'=>by cases e';exact⟨vs,own,g1⟩,⟨_,_,rfl, .inr rfl⟩,fun b' o' n' c' e'=>by cases e';exact⟨q1,q2⟩⟩)
 ·have hcl:cap<UNK:=hcap.elim id fun q=>absurd q hU
  have e1:ns.length+1-1=ns.length:=by omega
  by_cases hck:cap=1
  ·subst hck
   have hn0:ns.length=0:=by omega
   have hop:aop h base e (.slice (.sl 2) a (some y) none none)=some (.val (.slice (some ⟨b,o,none⟩) ns.length 0) h):=by
    simp only[aop,hx,sliceOp,bnd_some hy,bnd_none,nbeq_not hU,nble_of (show 1≤ns.length+1 by omega),nble_of hc,nbeq_self,Bool.and_self,cond_true,cond_false,asPair,e1]
   refine wO_val hop (hK _ _ (.refl h) ⟨_,_,_,_,rfl⟩ ⟨?_,fun b' o' n' e'=>(by injection e' with e1 e2 e3;unfold UNK at e3 hcl;omega),⟨_,_,rfl, .inl (by omega)⟩,fun b' o' n' c' e'=>by cases e';exact⟨q1,q2⟩⟩)
   have:ns=[]:=List.length_eq_zero_iff.1 hn0
   subst this
   exact .mem ⟨s1.lt,⟨vs,own,t,g1,by show ltake (0*2) _=[];rw[Nat.zero_mul];cases ldrop o vs<;>rfl⟩,rfl⟩ (Nat.zero_le _)
  ·have A:=a_sliceU (base:=base) (size:=2) (hi:=none) hx (bnd_some hy) bnd_none (show 1≤ns.length+1 by omega) hc (by omega) hcl
   rw[e1]at A
   exact wO_val A (hK _ _ (.refl h) ⟨_,_,_,_,rfl⟩ ⟨.mem ⟨s1.lt,⟨vs,own,t,g1,hdrop⟩,hlen'⟩ (by omega),fun b' o' n' e'=>(by injection e' with e1 e2 e3;unfold UNK at e3 hcl;omega),⟨_,_,rfl, .inl (by omega)⟩,fun b' o' n' c' e'=>by cases e';exact⟨q1,q2⟩⟩)
theorem FW.pan{f:Nat}{args:List Value}{v:Value}{K:Env→Dfs→Heap→Prop}{dst:Option Nat}(H:CW T f args {h with log:=[]} fun r h'=>r= .panic v∧h'={h with log:=[]})(hK:Q (.panic v) e ds h):FW T (.func f) args {h with log:=[]} (KO K Q base dst e ds h.log):=by
 refine .func (CW.mono H ?_)
 rintro r h2 ⟨rfl,rfl⟩
 exact⟨hK⟩
theorem EvF.of_pan{f:Nat}{args:List Value}{v:Value}(H:CW T f args {h with log:=[]} fun r h'=>r= .panic v∧h'={h with log:=[]}):EvF T (.func f) args {h with log:=[]} (.panic v,{h with log:=[]}):=by
 obtain⟨r,h',⟨h1⟩,h2⟩:=FW.func H
 obtain⟨rfl,rfl⟩:=h2
 exact⟨_, ‹_›⟩
def fnL5:List Value:=[.func (.func 169) #[] #[], .func (.func 170) #[] #[], .func (.func 171) #[] #[], .func (.func 172) #[] #[], .func (.func 173) #[] #[]]
theorem fns_at{k:Nat}(h:k≤4):lget fnL5 (0+k*1)=some (.func (.func (169+k)) #[] #[]):=by
 rcases k with _|_|_|_|_|k
 ·rfl
 ·rfl
 ·rfl
 ·rfl
 ·rfl
 ·omega
def okN(l:List Kd)(p:Int×Int)(x:Nat×Int):Bool:=
 if x.1=0 then decide (x.2=0)else if x.1=1∨x.1=2 then(plankS l x p).1.ok else decide (1≤x.2∧x.2≤sizeI x p-1)
theorem meth(F:FnsNd T){h:Heap}(hr:Rdy h){bb n c:Nat}{sa:Option Addr}{wv:Value}{kerf:Int}{l:List Kd}(gb:h.get bb=some (.cells [.slice sa n c, .int .i64 kerf,wv] true 1))(hs:SliceOf h 5 (.slice sa n c) n (kcs l))(hn:n<1000)(p:Int×Int)(h1:1≤p.1∧p.1≤16)(h2:1≤p.2∧p.2≤16)(x:Nat×Int)(hx:x.1≤4):
 Pu T (169+x.1) [.pointer (some ⟨bb,0,none⟩),pairV p,nodeI x] h (.bool (okN l p x)):=by
 obtain⟨k,at'⟩:=x
 dsimp only at hx
 rcases k with _|_|_|_|_|k
 ·exact isWaste169 F hr _ p (0,at')
 ·exact isPlank170 F hr gb hs hn p (1,at')
 ·exact isTurned171 F hr gb hs hn p (2,at')
 ·exact isAcross172 F hr _ p (3,at') h1
 ·exact isAlong173 F hr _ p (4,at') h2
 ·omega
end Go.A.Pk
end
section
set_option maxRecDepth 100000
namespace Go.A.Pk
variable {T:Nat→Option AFunc} {base:Nat} {rnd:Option Nat} {Q:XQ} {e:Env} {ds:Dfs} {h:Heap}
theorem Gp.ofK(hp:primAS T){f q:Nat}{args:List Value}{c:ACode}{rs:List (Nat×Option (Option Nat))}{S:Nat→Prop}{Q Qp:Value→Heap→Prop}(hf:T f=some (.code c rs))(hq:q<h.next)
 (H:WE T h.next none c (endT rs S (fun v h1=>Q v h1∧q∈h1.log∧Dirty h1 q) Qp) (paramsE 0 args) [] h):Gp T f args h S (fun v h1=>Q v h1∧q∈h1.log∧Dirty h1 q) Qp:=by
 obtain⟨x,e,ds,h1,⟨m,hm⟩,⟨rfl,hl,hx⟩⟩:=H.ok
 have hA:=(ASall.all hp m).exec _ _ _ _ _ _ _ _ _ _ (hm m (Nat.le_refl _)) (Nat.le_refl _)
 refine CW.code hf ⟨x,e,[],h1,⟨m,hm⟩,?_⟩
 unfold endQ
 rcases hx with⟨hx,vs,hvs,hQ,hmem,hd⟩|⟨v,rfl,hQ⟩
 ·have key:Ws S h (gcA h h1 (oneV vs))∧((∃v,Res.ret (oneV vs)= .ret v∧Q v (gcA h h1 (oneV vs))∧q∈(gcA h h1 (oneV vs)).log∧Dirty (gcA h h1 (oneV vs)) q)∨∃v,Res.ret (oneV vs)= .panic v∧Qp v (gcA h h1 (oneV vs))):=by
   rw[gc_kept hq hmem hd]
   exact⟨Ws.of_as hA hl, .inl ⟨_,rfl,hQ,hmem,hd⟩⟩
  rcases hx with rfl|rfl<;>(simp only[hvs];exact key)
 ·exact⟨Ws.of_as hA hl, .inr ⟨v,rfl,hQ⟩⟩
theorem merge_keep{base z:Nat}:∀{m l:List Nat},z∈l→z∈mergeLog base l m
 |[],l,h=>h
 |b::m,l,h=>by
  simp only[mergeLog]
  refine merge_keep (m:=m) ?_
  rw[cond_eq_ite,cond_eq_ite]
  split
  ·split
   ·exact h
   ·exact List.mem_cons_of_mem _ h
  ·exact h
theorem FW.gpk{f:Nat}{args:List Value}{S:Nat→Prop}{Q' Qp:Value→Heap→Prop}{K:Env→Dfs→Heap→Prop}{dst:Option Nat}(H:Gp T f args {h with log:=[]} S Q' Qp)(hlog:∀v (h':Heap) l,Q' v h'→Q' v {h' with log:=l})(hlogp:∀v (h':Heap) l,Qp v h'→Qp v {h' with log:=l})
 (hK:∀v h',Ws S h h'→(∀z∈h.log,z∈h'.log)→Q' v h'→K (dstE e dst v) ds h')(hP:∀v h',Ws S h h'→Qp v h'→Q (.panic v) e ds h'):FW T (.func f) args {h with log:=[]} (KO K Q base dst e ds h.log):=by
 refine .func (CW.mono H ?_)
 rintro r h2 ⟨hx,⟨v,rfl,hq⟩|⟨v,rfl,hq⟩⟩
 ·exact⟨hK v _ hx.call (fun z hz=>merge_keep hz) (hlog v h2 _ hq)⟩
 ·exact⟨hP v _ hx.call (hlogp v h2 _ hq)⟩
theorem mem_wr_new{q base:Nat}{o:AObj}(hq:q<base):q∈(h.wr base q o).log:=by
 simp only[Heap.wr,nblt_of hq,cond_true]
 cases hl:lhas h.log q with
 |true=>simp only[cond_true];exact lhas_mem.1 hl
 |false=>simp only[cond_false];exact List.mem_cons_self ..
theorem mem_wr{q y base:Nat}{o:AObj}(hq:q∈h.log):q∈(h.wr base y o).log:=by
 simp only[Heap.wr,cond_eq_ite]
 split
 ·split
  ·exact hq
  ·exact List.mem_cons_of_mem _ hq
 ·exact hq
def Sv(lo z:Nat):Prop:=z=lo+6∨z=lo+2∨z=lo+4
def visV(lo:Nat):Value:= .func (.func 144) #[] #[.pointer (some ⟨lo+6,0,none⟩), .pointer (some ⟨lo+5,0,none⟩), .pointer (some ⟨lo,0,none⟩), .pointer (some ⟨lo+2,0,none⟩), .pointer (some ⟨lo+7,0,none⟩)]
structure Vst (lo bb:Nat) (h0 h:Heap) (ns:List (Nat×Int)) (wo wst de:Int) (us:List Int):Prop where
 nx:lo+8≤h.next
 old:∀z,z<lo→h.get z=h0.get z
 rest:∃v,h.get (lo+6)=some (.cells [v] true 1)∧Rst (Sv lo) h v ns
 all:h.get (lo+5)=some (.cells fnL5 true 1)
 bx:h.get lo=some (.cells [.pointer (some ⟨bb,0,none⟩)] true 1)
 out:h.get (lo+2)=some (.cells [.int .i64 wo, .int .i64 wst, .int .i64 de, .slice (some ⟨lo+4,0,none⟩) us.length us.length] true 1)
 vis:h.get (lo+7)=some (.cells [visV lo] true 1)
 usd:h.get (lo+4)=some (.cells (ints us) true 1)
variable {lo bb:Nat} {h0:Heap} {ns:List (Nat×Int)} {wo wst de:Int} {us:List Int}
theorem Vst.ext{h h':Heap}(s:Vst lo bb h0 h ns wo wst de us)(x:Ext h h'):Vst lo bb h0 h' ns wo wst de us:=by
 obtain⟨q1,q2,⟨v,q3,r⟩,q4,q5,q6,q7,q8⟩:=s
 have k:∀z,z<lo+8→h'.get z=h.get z:=fun z hz=>x.old z (by omega)
 exact⟨Nat.le_trans q1 x.next,fun z hz=>(k z (by omega)).trans (q2 z hz),⟨v,(k _ (by omega)).trans q3,r.ext x⟩,(k _ (by omega)).trans q4,(k _ (by omega)).trans q5,(k _ (by omega)).trans q6,(k _ (by omega)).trans q7,(k _ (by omega)).trans q8⟩
theorem Vst.log(s:Vst lo bb h0 h ns wo wst de us)(m:List Nat):Vst lo bb h0 {h with log:=m} ns wo wst de us:=by
 obtain⟨q1,q2,⟨v,q3,r⟩,q4,q5,q6,q7,q8⟩:=s
 exact⟨q1,q2,⟨v,q3,r.log m⟩,q4,q5,q6,q7,q8⟩
theorem Vst.setOut(s:Vst lo bb h0 h ns wo wst de us)(base:Nat)(wo' wst' de':Int):Vst lo bb h0 (h.wr base (lo+2) (.cells [.int .i64 wo', .int .i64 wst', .int .i64 de', .slice (some ⟨lo+4,0,none⟩) us.length us.length] true 1)) ns wo' wst' de' us:=by
 obtain⟨q1,q2,⟨v,q3,r⟩,q4,q5,q6,q7,q8⟩:=s
 exact⟨q1,fun z hz=>(z5 (by omega)).trans (q2 z hz),⟨v,(z5 (by omega)).trans q3,r.keep (Nat.le_refl _) fun z hz hn=>z5 (fun e=>hn (by unfold Sv;omega))⟩,(z5 (by omega)).trans q4,(z5 (by omega)).trans q5,Heap.get_wr_new q6,(z5 (by omega)).trans q7,(z5 (by omega)).trans q8⟩
theorem Vst.setUsed(s:Vst lo bb h0 h ns wo wst de us)(base:Nat){us':List Int}(hl:us'.length=us.length):Vst lo bb h0 (h.wr base (lo+4) (.cells (ints us') true 1)) ns wo wst de us':=by
 obtain⟨q1,q2,⟨v,q3,r⟩,q4,q5,q6,q7,q8⟩:=s
 exact⟨q1,fun z hz=>(z5 (by omega)).trans (q2 z hz),⟨v,(z5 (by omega)).trans q3,r.keep (Nat.le_refl _) fun z hz hn=>z5 (fun e=>hn (by unfold Sv;omega))⟩,(z5 (by omega)).trans q4,(z5 (by omega)).trans q5,by rw[hl];exact(z5 (by omega)).trans q6,(z5 (by omega)).trans q7,Heap.get_wr_new q8⟩
theorem Vst.setRest(s:Vst lo bb h0 h ns wo wst de us)(base:Nat){v:Value}{ns':List (Nat×Int)}(r':Rst (Sv lo) h v ns'):Vst lo bb h0 (h.wr base (lo+6) (.cells [v] true 1)) ns' wo wst de us:=by
 obtain⟨q1,q2,⟨_,q3,_⟩,q4,q5,q6,q7,q8⟩:=s
 exact⟨q1,fun z hz=>(z5 (by omega)).trans (q2 z hz),⟨v,Heap.get_wr_new q3,r'.keep (Nat.le_refl _) fun z hz hn=>z5 (fun e=>hn (by unfold Sv;omega))⟩,(z5 (by omega)).trans q4,(z5 (by omega)).trans q5,(z5 (by omega)).trans q6,(z5 (by omega)).trans q7,(z5 (by omega)).trans q8⟩
structure Stg (lo bb n0:Nat) (h0 h:Heap) (p:Int×Int) (x:Nat×Int) (ns:List (Nat×Int)) (wo wst de:Int) (us:List Int):Prop where
 wf:WF h
 st:Vst lo bb h0 h ns wo wst de us
 lg1:∀z∈h.log,Sv lo z
 lg2:lo+6∈h.log
 dty:Dirty h (lo+6)
 gx:h.get n0=some (.cells [.int .i64 p.1, .int .i64 p.2] true 1)
 gn:h.get (n0+1)=some (.cells [.int .u8 (x.1:Nat), .int .i64 x.2] true 1)
 nx:n0+1<h.next
 lo8:lo+8≤n0
variable {n0:Nat} {p:Int×Int} {x:Nat×Int}
theorem Dirty_wr{q y base:Nat}{o:AObj}(d:Dirty h q)(hq:q≠y):Dirty (h.wr base y o) q:=by
 obtain⟨vs,own,t,g,hs⟩:=d
 exact⟨vs,own,t,(z5 hq).trans g,hs⟩
theorem Stg.setOut(s:Stg lo bb n0 h0 h p x ns wo wst de us)(wo' wst' de':Int):Stg lo bb n0 h0 (h.wr n0 (lo+2) (.cells [.int .i64 wo', .int .i64 wst', .int .i64 de', .slice (some ⟨lo+4,0,none⟩) us.length us.length] true 1)) p x ns wo' wst' de' us:=by
 obtain⟨q1,q2,q3,q4,q5,q6,q7,q8,q9⟩:=s
 exact⟨q1.as (AS.wr _ _ _ _),q2.setOut _ _ _ _,wr_log q3 (.inr (.inl rfl)),mem_wr q4,Dirty_wr q5 (by omega),(z5 (by omega)).trans q6,(z5 (by omega)).trans q7,q8,q9⟩
theorem Stg.setUsed(s:Stg lo bb n0 h0 h p x ns wo wst de us){us':List Int}(hl:us'.length=us.length):Stg lo bb n0 h0 (h.wr n0 (lo+4) (.cells (ints us') true 1)) p x ns wo wst de us':=by
 obtain⟨q1,q2,q3,q4,q5,q6,q7,q8,q9⟩:=s
 exact⟨q1.as (AS.wr _ _ _ _),q2.setUsed _ hl,wr_log q3 (.inr (.inr rfl)),mem_wr q4,Dirty_wr q5 (by omega),(z5 (by omega)).trans q6,(z5 (by omega)).trans q7,q8,q9⟩
theorem Stg.start{ns':List (Nat×Int)}{b o n c:Nat}(s:Vst lo bb h0 h ns' wo wst de us)(w:WF h)(r:Rst (Sv lo) h (.slice (some ⟨b,o,none⟩) n c) ns)(hl:h.log=[])(gx:h.get n0=some (.cells [.int .i64 p.1, .int .i64 p.2] true 1))(gn:h.get (n0+1)=some (.cells [.int .u8 (x.1:Nat), .int .i64 x.2] true 1))(nx:n0+1<h.next)(l8:lo+8≤n0):
 Stg lo bb n0 h0 (h.wr n0 (lo+6) (.cells [.slice (some ⟨b,o,none⟩) n c] true 1)) p x ns wo wst de us:=by
 obtain⟨v,g,_⟩:=s.rest
 exact⟨w.as (AS.wr _ _ _ _),s.setRest _ r,wr_log (by rw[hl];simp) (.inl rfl),mem_wr_new (by omega),⟨_,_,_,Heap.get_wr_new g,rfl⟩,(z5 (by omega)).trans gx,(z5 (by omega)).trans gn,nx,l8⟩
theorem Stg.ext{h':Heap}(s:Stg lo bb n0 h0 h p x ns wo wst de us)(e:Ext h h'):Stg lo bb n0 h0 h' p x ns wo wst de us:=by
 obtain⟨q1,q2,q3,q4,⟨vs,own,t,g,hs⟩,q6,q7,q8,q9⟩:=s
 have:=e.next
 exact⟨e.wf q1,q2.ext e,by rw[e.log];exact q3,by rw[e.log];exact q4,⟨vs,own,t,(e.old _ (by omega)).trans g,hs⟩,(e.old _ (by omega)).trans q6,(e.old _ q8).trans q7,by omega,q9⟩
theorem Stg.call{h':Heap}{ns':List (Nat×Int)}{wo' wst' de':Int}{us':List Int}(s:Stg lo bb n0 h0 h p x ns wo wst de us)(w:Ws (Sv lo) h h')(hl:∀z∈h.log,z∈h'.log)(v:Vst lo bb h0 h' ns' wo' wst' de' us')(d:Dirty h' (lo+6)):Stg lo bb n0 h0 h' p x ns' wo' wst' de' us':=by
 obtain⟨q1,q2,q3,q4,_,q6,q7,q8,q9⟩:=s
 have:=w.next
 exact⟨w.wf q1,v,fun z hz=>(w.log z hz).elim (q3 z) id,hl _ q4,d,(w.old _ (by omega) (by unfold Sv;omega)).trans q6,(w.old _ q8 (by unfold Sv;omega)).trans q7,by omega,q9⟩
end Go.A.Pk
end
section
namespace Go.A.Pk
def pos(t:Tab):Tab:=t.map fun e=>(e.1,if e.2<0 then 0 else e.2)
structure Bw (W:Int) (t:Tab):Prop where
 up:Bd W (pos t)
 low:∀e∈t,never≤e.2
end Go.A.Pk
end
section
set_option maxRecDepth 100000
namespace Go.A.Pk
variable {T:Nat→Option AFunc}
theorem pos_upd(x:Nat×Nat)(v:Int):∀t:Tab,pos (upd t x v)=upd (pos t) x (if v<0 then 0 else v)
 |[]=>rfl
 |e::t=>by
  have hk:isKey (x.1,x.2) (e.1,if e.2<0 then 0 else e.2)=isKey (x.1,x.2) e:=rfl
  simp only[upd,pos,List.map_cons,hk]
  split
  ·rfl
  ·simp only[List.map_cons]
   exact congrArg _ (pos_upd x v t)
theorem mem_upd{x:Nat×Nat}{v:Int}:∀{t:Tab} {e:(Nat×Nat)×Int},e∈upd t x v→e=(x,v)∨e∈t
 |[],e,h=>by simp only[upd,List.mem_singleton]at h;exact .inl h
 |e0::t,e,h=>by
  simp only[upd]at h
  split at h
  ·rcases List.mem_cons.1 h with h|h
   ·exact .inl h
   ·exact .inr (List.mem_cons_of_mem _ h)
  ·rcases List.mem_cons.1 h with h|h
   ·exact .inr (h▸List.mem_cons_self ..)
   ·exact(mem_upd h).imp id (List.mem_cons_of_mem _)
theorem Bw.upd{W:Int}{t:Tab}{x:Nat×Nat}{v:Int}(h:Bw W t)(hW:0≤W)(hx:1≤x.1∧1≤x.2)(hv:never≤v∧v≤W*((x.1:Int)*(x.2:Int))):Bw W (Pk.upd t x v)where
 up:=by
  rw[pos_upd]
  have h0:0≤W*((x.1:Int)*(x.2:Int)):=Int.mul_nonneg hW (Int.mul_nonneg (by omega) (by omega))
  exact upd_bd hx (by split<;>omega) h.up
 low:=fun e he=>by
  rcases mem_upd he with rfl|he
  ·exact hv.1
  ·exact h.low e he
end Go.A.Pk
end
section
set_option maxRecDepth 100000
namespace Go.A.Pk
variable {T:Nat→Option AFunc}
theorem ints_len(l:List Int):(ints l).length=l.length:=by simp[ints]
theorem st_int{xs:List Int}{i:Nat}{z:Int}(hi:i<xs.length):(Nat.beq (llen (cellsOf (.int .i64 z))) 1&&Nat.ble (0+i*1+1) (llen (ints xs))&&ones (cellsOf (.int .i64 z)))=true:=by
 simp[cellsOf,ones,llen_eq,ints_len];omega
theorem puts_int{xs:List Int}{i:Nat}{z:Int}:lputs (ints xs) (0+i*1) (cellsOf (.int .i64 z))=ints (xs.set i z):=by
 simp[cellsOf,lputs,lset_eq,ints,List.map_set]
end Go.A.Pk
end
section
set_option maxRecDepth 100000
namespace Go.A.Pk
variable {T:Nat→Option AFunc}
structure FnsVs (T:Nat→Option AFunc):Prop extends FnsNd T where
 f144:T 144=some f144
theorem node_get{vs:List Value}{q:Nat}{a b:Value}(hk:ltake 2 (ldrop q vs)=[a,b]):lget vs q=some a∧lget vs (q+1)=some b:=by
 rw[ltake_eq,ldrop_eq]at hk
 rw[lget_eq,lget_eq]
 have h0:(List.take 2 (List.drop q vs))[0]? =some a:=by rw[hk];rfl
 have h1:(List.take 2 (List.drop q vs))[1]? =some b:=by rw[hk];rfl
 rw[List.getElem?_take_of_lt (by omega),List.getElem?_drop]at h0 h1
 exact⟨h0,h1⟩
def vArgs(lo:Nat)(p:Int×Int)(dep:Int):List Value:=[pairV p, .int .i64 dep, .pointer (some ⟨lo+6,0,none⟩), .pointer (some ⟨lo+5,0,none⟩), .pointer (some ⟨lo,0,none⟩), .pointer (some ⟨lo+2,0,none⟩), .pointer (some ⟨lo+7,0,none⟩)]
structure Vb (wo wst:Int) (us:List Int) (ns:List (Nat×Int)):Prop where
 wo:0≤wo∧wo+1000000*ns.length≤1000000000000
 wst:wst≤1000000∧ -1000000000≤wst-256*ns.length
 us:∀u∈us,0≤u∧u+ns.length≤1000000
def VQ(lo bb:Nat)(h0:Heap)(r:Sm×Nat)(ns:List (Nat×Int))(wo wst de dep:Int)(us:List Int)(v:Value)(h:Heap):Prop:=
 v= .tuple #[]∧r.1.ok=true∧Vst lo bb h0 h (ns.drop r.2) (wo+r.1.worth) (wst-r.1.cells) (mx de (dep+r.1.depth)) (List.zipWith (· + ·) us r.1.used)
def VP(lo:Nat)(r:Sm×Nat)(v:Value)(h:Heap):Prop:=v=badV∧r.1.ok=false∧∃vs,vs.length=4∧h.get (lo+2)=some (.cells vs true 1)
theorem Vst.four{lo bb:Nat}{h0 h:Heap}{ns:List (Nat×Int)}{wo wst de:Int}{us:List Int}(s:Vst lo bb h0 h ns wo wst de us):∃vs:List Value,vs.length=4∧h.get (lo+2)=some (.cells vs true 1):=⟨_,rfl,s.out⟩
def cd:AFunc→ACode
 | .code c _=>c
 |_=> .skip
def tl1:ACode→ACode
 | .seq _ b=>b
 |c=>c
def vis0:ACode:=tl1 (tl1 (tl1 (tl1 (cd f144))))
def vis1:ACode:=tl1 vis0
def vis2:ACode:=tl1 vis1
def vEnv(lo n0:Nat)(dep:Int):Env:=[(1, .int .i64 dep),(4, .pointer (some ⟨lo,0,none⟩)),(5, .pointer (some ⟨lo+2,0,none⟩)),(6, .pointer (some ⟨lo+7,0,none⟩)),(7, .pointer (some ⟨n0,0,none⟩)),(9, .pointer (some ⟨n0+1,0,none⟩))]
theorem old_slice{h0 h:Heap}{sz n lo:Nat}{v:Value}{cs:List Value}(s:SliceOf h0 sz v n cs)(hlo:h0.next=lo)(hn:lo≤h.next)(hg:∀z,z<lo→h.get z=h0.get z):SliceOf h sz v n cs:=
 SliceOf.agree s (by omega) fun b _ _ _ hb _=>hg b (by omega)
set_option maxHeartbeats 16000000 in
theorem visit_draw(F:FnsVs T){kerf:Int}{l:List Kd}(hc:chk kerf l=0){lo bb c wc n0:Nat}{sa wa:Option Addr}{h0 h:Heap}(hlo:h0.next=lo)(hben:h0.get bb=some (.cells [.slice sa l.length c, .int .i64 kerf, .slice wa l.length wc] true 1))(hbb:bb<lo)
 (hks:SliceOf h0 5 (.slice sa l.length c) l.length (kcs l)){p:Int×Int}{x:Nat×Int}{ns:List (Nat×Int)}{dep wo wst de:Int}{us:List Int}(h1:1≤p.1∧p.1≤16)(h2:1≤p.2∧p.2≤16)(k4:x.1≤4)(S:Stg lo bb n0 h0 h p x ns wo wst de us){Q:XQ}
 (hT:okN l p x=true→WE T n0 none vis1 Q (vEnv lo n0 dep) [] h)(hF:okN l p x=false→Q (.panic badV) [] [] h):
 WE T n0 none vis0 Q [(1, .int .i64 dep),(3, .pointer (some ⟨lo+5,0,none⟩)),(4, .pointer (some ⟨lo,0,none⟩)),(5, .pointer (some ⟨lo+2,0,none⟩)),(6, .pointer (some ⟨lo+7,0,none⟩)),(7, .pointer (some ⟨n0,0,none⟩)),(9, .pointer (some ⟨n0+1,0,none⟩))] [] h:=by
 obtain⟨S1,S2,S3,S4,S5,S6,S7,S8,S9⟩:=S
 obtain⟨q1,q2,⟨v,q3,r⟩,q4,q5,q6,q7,q8⟩:=S2
 have n12:=(chk_iff.1 hc).1
 have C:=meth F.toFnsNd (h:={h with log:=[]}) (.of S1) (kerf:=kerf) (l:=l) (c:=c) (n:=l.length) (sa:=sa) (wv:= .slice wa l.length wc) ((q2 bb hbb).trans hben) ((old_slice hks hlo (by omega) q2).log []) (by omega) p h1 h2 x k4
 have hf:=fns_at k4
 obtain⟨p1,p2⟩:=p
 obtain⟨k,at'⟩:=x
 dsimp only at S6 S7 k4 C hf
 unfold pairV nodeI at C
 clear q2 q3 r q6 q7 q8 v hben hks h1 h2 S3 S4 S5
 unfold vis0
 refine wE_seq ?_
 by_cases hok:okN l (p1,p2) (k,at')=true
 ·rw[hok]at C
  refine wE_draw ?_
  refine qF ?_;refine qL ?_;refine wD_quiet rfl rfl rfl (by exact rfl) (by exact rfl) (by exact rfl) (a_iaddrA (by exact rfl) (by exact rfl) (by omega)) ?_
  refine wD_quiet rfl rfl rfl (by exact rfl) (by exact rfl) (by exact rfl) (a_load (by exact rfl) (by assumption) (by assumption)) ?_;refine qL ?_
  refine qN ?_;refine qN ?_
  refine qC ?_
  refine FW.puD C (by apply ra_dropC rfl;apply ra_dropC rfl;apply ra_dropC rfl;apply ra_dropC rfl;apply ra_dropC rfl;apply ra_dropC rfl;apply ra_dropC rfl;exact ra_nil) ?_
  clear C
  skip
  refine qC ?_
  refine FW.puD (need_ok F.toFnsNd (.of S1)) (by exact ra_nil) ?_
  refine wD_nil ?_
  refine y1 ?_
  refine kS_n ?_
  exact hT hok
 ·have hok2:okN l (p1,p2) (k,at')=false:=by cases h:okN l (p1,p2) (k,at')with|true=>exact absurd h hok|false=>rfl
  rw[hok2]at C
  refine wE_drawP (init:=[0,1,2,3,4,5,6,7]) (i:=8) (mask:=255) rfl rfl (by decide) ?_
  refine qF ?_;refine qL ?_;refine wD_quiet rfl rfl rfl (by exact rfl) (by exact rfl) (by exact rfl) (a_iaddrA (by exact rfl) (by exact rfl) (by omega)) ?_
  refine wD_quiet rfl rfl rfl (by exact rfl) (by exact rfl) (by exact rfl) (a_load (by exact rfl) (by assumption) (by assumption)) ?_;refine qL ?_
  refine qN ?_;refine qN ?_
  refine qC ?_
  refine FW.puD C (by apply ra_dropC rfl;apply ra_dropC rfl;apply ra_dropC rfl;apply ra_dropC rfl;apply ra_dropC rfl;apply ra_dropC rfl;apply ra_dropC rfl;exact ra_nil) ?_
  clear C
  refine wD_nil ?_
  exact⟨⟨_,_,_,_,rfl,rfl,rfl,a_call rfl rfl rfl rfl,badV,_,EvF.of_pan (need_no F.toFnsNd),fun base=>kS_p (hF hok2)⟩⟩
end Go.A.Pk
end
section
set_option maxRecDepth 100000
namespace Go.A.Pk
variable {T:Nat→Option AFunc}
set_option maxHeartbeats 16000000 in
theorem visit_depth{lo bb n0:Nat}{h0 h:Heap}{p:Int×Int}{x:Nat×Int}{ns:List (Nat×Int)}{dep wo wst de:Int}{us:List Int}(S:Stg lo bb n0 h0 h p x ns wo wst de us){Q:XQ}
 (H:∀h',Stg lo bb n0 h0 h' p x ns wo wst (mx de dep) us→WE T n0 none vis2 Q (vEnv lo n0 dep) [] h'):WE T n0 none vis1 Q (vEnv lo n0 dep) [] h:=by
 have S':=S.setOut wo wst (mx de dep)
 have q6:=S.st.out
 have q9:=S.lo8
 have q8:=S.nx
 clear S
 unfold vis1 vEnv
 refine y4 ?_
 refine yF ?_
 refine wO_val (a_load (by exact rfl) q6 (by exact rfl)) ?_
 refine yM ?_
 refine wO_val (a_max (by exact rfl) (by exact rfl)) ?_
 refine yF ?_
 refine wO_val (a_store (by exact rfl) (by exact rfl) q6 (by exact rfl) (by exact rfl)) ?_
 refine y3 ?_
 exact H _ S'
set_option maxHeartbeats 16000000 in
theorem visit_plank{kerf:Int}{l:List Kd}(hc:chk kerf l=0){lo bb c wc n0:Nat}{sa wa:Option Addr}{h0 h:Heap}(hlo:h0.next=lo)(hben:h0.get bb=some (.cells [.slice sa l.length c, .int .i64 kerf, .slice wa l.length wc] true 1))(hbb:bb<lo)
 (hws:SliceOf h0 1 (.slice wa l.length wc) l.length (ints (wsP l))){p:Int×Int}{x:Nat×Int}{ns:List (Nat×Int)}{dep wo wst de:Int}{us:List Int}(h1:1≤p.1∧p.1≤16)(h2:1≤p.2∧p.2≤16){i:Nat}{k:Kd}(hx1:x.1=1∨x.1=2)(hx2:x.2=i)(hkl:l[i]? =some k)(hul:us.length=l.length)
 (hwo:0≤wo∧wo≤1000000000000)(hwst: -1000000000≤wst∧wst≤1000000000)(hus:∀u∈us,0≤u∧u≤1000000)(S:Stg lo bb n0 h0 h p x ns wo wst de us){Q:XQ}
 (H:∀h',Stg lo bb n0 h0 h' p x ns (wo+k.worth) (wst-p.1*p.2) de (us.set i (us.getD i 0+1))→Q .normal [] [] h'):WE T n0 none vis2 Q (vEnv lo n0 dep) [] h:=by
 have hi:i<l.length:=(List.getElem?_eq_some_iff.1 hkl).1
 have hkr:=(chk_iff.1 hc).2.2.1 k (List.mem_of_getElem? hkl)
 have hkw:0≤k.worth∧k.worth≤1000000:=hkr.2.2.2
 have hiu:i<us.length:=by omega
 have hu1:0≤us.getD i 0∧us.getD i 0≤1000000:=by
  rw[List.getD_eq_getElem?_getD,List.getElem?_eq_getElem hiu]
  exact hus _ (List.getElem_mem hiu)
 have SF:=((S.setOut (wo+k.worth) wst de).setOut (wo+k.worth) (wst-p.1*p.2) de).setUsed (us':=us.set i (us.getD i 0+1)) (by simp)
 have HF:=H _ SF
 clear SF H
 obtain⟨S1,S2,S3,S4,S5,S6,S7,S8,S9⟩:=S
 obtain⟨q1,q2,⟨v,q3,r⟩,q4,q5,q6,q7,q8⟩:=S2
 rw[hul]at HF q6
 have gb:h.get bb=some (.cells [.slice sa l.length c, .int .i64 kerf, .slice wa l.length wc] true 1):=(q2 bb hbb).trans hben
 have sw:=old_slice hws hlo (by omega) q2
 obtain⟨p1,p2⟩:=p
 obtain⟨kd,at'⟩:=x
 dsimp only at S6 S7 h1 h2 hx1 hx2 HF
 subst hx2
 have hw1:(ints (wsP l))[i]? =some (.int .i64 k.worth):=by simp[ints,wsP,hkl]
 have hu2:lget (ints us) (0+i*1)=some (.int .i64 (us.getD i 0)):=by
  rw[lget_eq,Nat.zero_add,Nat.mul_one]
  simp[ints,List.getD_eq_getElem?_getD,List.getElem?_eq_getElem hiu]
 have hmul:numOp .mul (.int .i64 p1) (.int .i64 p2)=some (.int .i64 (p1*p2)):=by
  have a1:=Int.mul_nonneg (show 0≤p1 by omega) (show 0≤p2 by omega)
  have a2:=Int.mul_le_mul h1.2 h2.2 (by omega) (by omega)
  simp[numOp,arith,wrapA_i64 (show -9223372036854775808≤p1*p2 by omega) (show p1*p2<9223372036854775808 by omega)]
 have hpp:0≤p1*p2∧p1*p2≤256:=by
  have a1:=Int.mul_nonneg (show 0≤p1 by omega) (show 0≤p2 by omega)
  have a2:=Int.mul_le_mul h1.2 h2.2 (by omega) (by omega)
  omega
 generalize p1*p2=pp at*
 generalize us.getD i 0=ui at*
 generalize k.worth=kw at*
 rcases sw.inv with⟨_,_,hz,_⟩|⟨b,o,cap,hv,sl,_⟩
 ·omega
 cases hv
 obtain⟨vs,own,t,g1,g2⟩:=slice_elem1 sl hw1
 have kb:b<h.next:=sl.lt
 have kbl:b<lo∨True:= .inr trivial
 clear q2 q3 r q4 q7 v hws hben sw sl hw1 hkl hkr hc S3 S4 S5 hus h1 h2
 unfold vis2 vEnv
 rcases hx1 with rfl|rfl
 ·refine y4 ?_;refine yF ?_;refine yL ?_;refine y3 ?_;refine wE_block ?_;refine wE_seq ?_;refine y4 ?_
  refine yt ?_;refine yM ?_;refine y3 ?_;refine yY ?_;refine wE_skip ?_;refine kS_n ?_;refine yY ?_;refine wE_seq ?_;refine wE_draw ?_
  refine qF ?_;refine qL ?_;refine qL ?_
  refine wD_quiet rfl rfl rfl (by exact rfl) (by exact rfl) (by exact rfl) (a_nilchk (by exact rfl)) ?_;refine qF ?_;refine qL ?_
  refine qF ?_;refine qL ?_;refine wD_quiet rfl rfl rfl (by exact rfl) (by exact rfl) (by exact rfl) (a_iaddrS (by exact rfl) (by exact rfl) (by omega)) ?_
  refine wD_quiet rfl rfl rfl (by exact rfl) (by exact rfl) (by exact rfl) (a_load (by exact rfl) (by assumption) (by assumption)) ?_;refine wD_quiet rfl rfl rfl (by exact rfl) (by exact rfl) (by exact rfl) (a_num (by exact rfl) (by exact rfl) (by exact m_add (wrapA_i64 (by omega) (by omega)))) ?_;refine qF ?_
  refine wD_storeA (ws:=[.int .i64 (wo+kw), .int .i64 wst, .int .i64 de, .slice (some ⟨lo+4,0,none⟩) l.length l.length]) rfl rfl rfl (by exact rfl) (by exact rfl) (by exact rfl) (by assumption) (by exact rfl) (by exact rfl) (by omega) (by apply ra_dropC rfl;apply ra_dropC rfl;apply ra_dropC rfl;apply ra_dropC rfl;apply ra_dropC rfl;apply ra_dropC rfl;apply ra_dropC rfl;apply ra_dropC rfl;apply ra_dropC rfl;apply ra_dropC rfl;apply ra_dropC rfl;apply ra_dropC rfl;exact ra_nil) ?_
  refine wD_nil ?_;refine y1 ?_;refine kS_n ?_;refine y4 ?_;refine yF ?_
  refine yL ?_;refine wO_val (a_iaddrA (i:=0) (by exact rfl) (by exact rfl) (by omega)) ?_
  refine yL ?_;refine wO_val (a_iaddrA (i:=1) (by exact rfl) (by exact rfl) (by omega)) ?_
  refine yL ?_;refine wO_val (a_num (by exact rfl) (by exact rfl) (by with_reducible assumption)) ?_
  refine ysub ?_;refine yF ?_
  refine yS ?_;refine y3 ?_;refine wE_region ?_;refine yF ?_
  refine yL ?_;refine yF ?_
  refine yL ?_;refine wO_val (a_iaddrS (by exact rfl) (by exact rfl) (by omega)) ?_
  refine wO_val (a_load (by exact rfl) (by(simp(disch:=first|omega|(simp only[z1,z2];omega))only[z3,z4,z5,z6,z7,z1,z2, *];exact rfl)) (by assumption)) ?_;refine yadd ?_
  refine wO_val (a_iaddrS (by exact rfl) (by exact rfl) (by omega)) ?_
  refine wO_val (a_store (ws:=ints (us.set i (ui+1))) (by exact rfl) (by exact rfl) (by(simp(disch:=first|omega|(simp only[z1,z2];omega))only[z3,z4,z5,z6,z7,z1,z2, *];exact rfl)) (st_int (by omega)) puts_int) ?_
  refine wO_nil ?_
  refine y1 ?_
  exact kB_n HF
 ·refine y4 ?_;refine yF ?_;refine yL ?_;refine y3 ?_;refine wE_block ?_;refine wE_seq ?_;refine y4 ?_
  refine yf ?_;refine yM ?_;refine y3 ?_;refine yX ?_;refine wE_region ?_;refine yt ?_
  refine yM ?_;refine y3 ?_;refine yY ?_;refine wE_seq ?_;refine wE_draw ?_;refine qF ?_
  refine qL ?_;refine qL ?_;refine wD_quiet rfl rfl rfl (by exact rfl) (by exact rfl) (by exact rfl) (a_nilchk (by exact rfl)) ?_
  refine qF ?_;refine qL ?_;refine qF ?_
  refine qL ?_;refine wD_quiet rfl rfl rfl (by exact rfl) (by exact rfl) (by exact rfl) (a_iaddrS (by exact rfl) (by exact rfl) (by omega)) ?_;refine wD_quiet rfl rfl rfl (by exact rfl) (by exact rfl) (by exact rfl) (a_load (by exact rfl) (by assumption) (by assumption)) ?_
  refine wD_quiet rfl rfl rfl (by exact rfl) (by exact rfl) (by exact rfl) (a_num (by exact rfl) (by exact rfl) (by exact m_add (wrapA_i64 (by omega) (by omega)))) ?_;refine qF ?_
  refine wD_storeA (ws:=[.int .i64 (wo+kw), .int .i64 wst, .int .i64 de, .slice (some ⟨lo+4,0,none⟩) l.length l.length]) rfl rfl rfl (by exact rfl) (by exact rfl) (by exact rfl) (by assumption) (by exact rfl) (by exact rfl) (by omega) (by apply ra_dropC rfl;apply ra_dropC rfl;apply ra_dropC rfl;apply ra_dropC rfl;apply ra_dropC rfl;apply ra_dropC rfl;apply ra_dropC rfl;apply ra_dropC rfl;apply ra_dropC rfl;apply ra_dropC rfl;apply ra_dropC rfl;apply ra_dropC rfl;exact ra_nil) ?_
  refine wD_nil ?_;refine y1 ?_;refine kS_n ?_;refine y4 ?_;refine yF ?_
  refine yL ?_;refine wO_val (a_iaddrA (i:=0) (by exact rfl) (by exact rfl) (by omega)) ?_
  refine yL ?_;refine wO_val (a_iaddrA (i:=1) (by exact rfl) (by exact rfl) (by omega)) ?_
  refine yL ?_;refine wO_val (a_num (by exact rfl) (by exact rfl) (by with_reducible assumption)) ?_
  refine ysub ?_;refine yF ?_
  refine yS ?_;refine y3 ?_;refine wE_region ?_;refine yF ?_
  refine yL ?_;refine yF ?_
  refine yL ?_;refine wO_val (a_iaddrS (by exact rfl) (by exact rfl) (by omega)) ?_
  refine wO_val (a_load (by exact rfl) (by(simp(disch:=first|omega|(simp only[z1,z2];omega))only[z3,z4,z5,z6,z7,z1,z2, *];exact rfl)) (by assumption)) ?_;refine yadd ?_
  refine wO_val (a_iaddrS (by exact rfl) (by exact rfl) (by omega)) ?_
  refine wO_val (a_store (ws:=ints (us.set i (ui+1))) (by exact rfl) (by exact rfl) (by(simp(disch:=first|omega|(simp only[z1,z2];omega))only[z3,z4,z5,z6,z7,z1,z2, *];exact rfl)) (st_int (by omega)) puts_int) ?_
  refine wO_nil ?_
  refine y1 ?_
  exact kB_n HF
end Go.A.Pk
end
