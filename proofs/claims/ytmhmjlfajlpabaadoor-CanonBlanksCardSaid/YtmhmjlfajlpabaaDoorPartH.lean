/- Part 8. -/
import Derived.Test.YtmhmjlfajlpabaaDoorPartG
import Derived.Recover
import Derived.KernelRfl
import Derived.Test.YtmhmjlfajlpabaaDoorProg
set_option linter.all false
set_option maxRecDepth 100000
set_option maxHeartbeats 1000000
set_option linter.unusedVariables false
namespace Go.Proofs.YtmhmjlfajlpabaaDoor
open Go Go.Abs Go.Proofs Go.RowKit Go.Lib
theorem b10_eq:b10= .seq p10_0 (.seq (.seq p10_1 (.cond (.tmp 9) (.seq p10_2 .ret) .skip)) (.seq p10_3 (.seq (.seq p10_4 (.seq p10_5 (.cond (.tmp 21) (.seq p10_6 .ret) .skip))) (.seq Qho (.seq p10_8 (.seq Qe9 (.seq Qm7 (.seq (.seq Qm6 (.cond (.tmp 40) QbT .skip)) (.seq Qm5 .ret))))))))):=by kernel_rfl
theorem b23_eq:b23= .seq p23_0 (.block 0 (.seq p23_3 (.cond (.tmp 8) p23_4 (.seq QfL (.cond (.tmp 10) (.seq p23_6 p23_7) (.seq p23_1 p23_2)))))):=by kernel_rfl
theorem fn10:QlD Tryd.prog 10:=⟨_,Tryd.func10,by kernel_rfl,by kernel_rfl⟩
theorem body10:Tryd.f10.body=some b10:=by kernel_rfl
theorem nt10:Tryd.f10.ntmps=49:=by kernel_rfl
theorem body23:Tryd.f23.body=some b23:=by kernel_rfl
theorem nt23:Tryd.f23.ntmps=17:=by kernel_rfl
theorem res10:Qbb Tryd.prog Tryd.f10.results.toList=some [.cell 2 true 5,.cell 3 false 1,.cell 4 false 1]:=by kernel_rfl
theorem res23:Qbb Tryd.prog Tryd.f23.results.toList=some []:=by kernel_rfl
theorem r7x_eq:Qho= .region 7 #[Qa8 Qho 0,Qa8 Qho 1] false:=by kernel_rfl
theorem r9x_eq:Qe9= .region 9 #[Qa8 Qe9 0,Qa8 Qe9 1,Qa8 Qe9 2] false:=by kernel_rfl
theorem r12x_eq:QbT= .region 12 #[Qa8 QbT 0,Qa8 QbT 1,Qa8 QbT 2,Qa8 QbT 3,Qa8 QbT 4,Qa8 QbT 5] false:=by kernel_rfl
theorem o7_1:(Qa8 Qho 1).op= .defer { callee:= .value (.tmp 24),args:= #[],argTypes:= #[] }∧(Qa8 Qho 1).guard=none∧(Qa8 Qho 1).dst=none:=⟨by kernel_rfl,by kernel_rfl,by kernel_rfl⟩
theorem o9_1:(Qa8 Qe9 1).op= .call { callee:= .value (.func 25),args:= #[.tmp 27,.const (.int .i64 1)],argTypes:= #[41,3] }∧(Qa8 Qe9 1).guard=none:=⟨by kernel_rfl,by kernel_rfl⟩
theorem o12_5:(Qa8 QbT 5).op= .call { callee:= .value (.func 26),args:= #[.tmp 41,.const (.int .i64 16),.tmp 45],argTypes:= #[41,27,3] }∧(Qa8 QbT 5).guard=none:=⟨by kernel_rfl,by kernel_rfl⟩
theorem c7_0:Qap Tryd.prog Qaz [Qa8 Qho 0,Qa8 Qho 1] (Qa8 Qho 0)=some ⟨some 24,.mkFunc (.func 23) [.t 2,.t 3,.t 4],none,[]⟩:=by kernel_rfl
theorem c9_0:Qap Tryd.prog Qaz [Qa8 Qe9 0,Qa8 Qe9 1,Qa8 Qe9 2] (Qa8 Qe9 0)=some ⟨some 27,.move (.t 5),none,[]⟩:=by kernel_rfl
noncomputable abbrev QpB:List Oper:= [Qa8 QbT 0,Qa8 QbT 1,Qa8 QbT 2,Qa8 QbT 3,Qa8 QbT 4,Qa8 QbT 5]
theorem c12_0:Qap Tryd.prog Qaz QpB (Qa8 QbT 0)=some ⟨some 41,.move (.t 5),none,[]⟩:=by kernel_rfl
theorem c12_1:Qap Tryd.prog Qaz QpB (Qa8 QbT 1)=some ⟨some 42,.move (.t 5),none,[]⟩:=by kernel_rfl
theorem c12_2:Qap Tryd.prog Qaz QpB (Qa8 QbT 2)=some ⟨some 43,.nilCheck (.t 42),none,[]⟩:=by kernel_rfl
theorem c12_3:Qap Tryd.prog Qaz QpB (Qa8 QbT 3)=some ⟨some 44,.fieldAddr 1 (.t 43),none,[]⟩:=by kernel_rfl
theorem c12_4:Qap Tryd.prog Qaz QpB (Qa8 QbT 4)=some ⟨some 45,.load false 1 (.t 44),none,[]⟩:=by kernel_rfl
theorem r0x_eq:p23_0= .region 0 #[Qa8 p23_0 0] false:=by kernel_rfl
theorem o0_0:(Qa8 p23_0 0).op= .call { callee:= .builtin .recover,args:= #[],argTypes:= #[] }∧(Qa8 p23_0 0).guard=none∧(Qa8 p23_0 0).dst=some 6:=⟨by kernel_rfl,by kernel_rfl,by kernel_rfl⟩
theorem r5x_eq:QfL= .region 5 #[Qa8 QfL 0,Qa8 QfL 1,Qa8 QfL 2] false:=by kernel_rfl
theorem o5_0:(Qa8 QfL 0).op= .typeAssert (.tmp 6) 20 45 true∧(Qa8 QfL 0).guard=none∧(Qa8 QfL 0).dst=some 9:=⟨by kernel_rfl,by kernel_rfl,by kernel_rfl⟩
theorem c5_x: [Qa8 QfL 1,Qa8 QfL 2].mapM (Qap Tryd.prog Qaz [Qa8 QfL 0,Qa8 QfL 1,Qa8 QfL 2])=some [⟨some 10,.extract (.t 9) 1,none,[]⟩,⟨some 11,.extract (.t 9) 0,none,[]⟩]:=by kernel_rfl
section
variable [Dfr] {P:Program} {g:Gh} {w:World} {st:St} {a:Act} {Q:Exit→Act→World→Prop}
theorem Inv.weak(h:Inv g st a w){T:List AV}(hl:T.length=st.T.length)(hT:∀(i:Nat) x,T[i]? =some x→x= .undef∨st.T[i]? =some x):Inv g ⟨T,st.H⟩ a w where
 heap:=h.heap
 size:=by rw[←h.size];exact hl
 tok i x v hx hv:=by
  rcases hT i x hx with rfl|hx'
  ·exact⟨.undef _,FOK.ne (by simp)⟩
  ·exact h.tok i x v hx' hv
 nores:=h.nores
 defers:=h.defers
theorem Inv.move(h:Inv g st a w){g':Gh}{H':Qaa}{w':World}(hw:WF g w g' w')(hH:HeapOK g' H' w')(hn:∀b,g'.own b≠ .res)(hT:∀x∈st.T,∀xs,x≠ .fslice xs):Inv g' ⟨st.T,H'⟩ a w' where
 heap:=hH
 size:=h.size
 tok i x v hx hv:=⟨hw.vr (h.tok i x v hx hv).1,FOK.ne (hT x (List.mem_of_getElem? hx))⟩
 nores:=hn
 defers:=h.defers
theorem Qnv{f:FuncId}(hf:QlD P f)(xs:Array Value)(w:World):(callFunc f xs).run P w= .ok (.enter f xs) w:=by
 obtain⟨fn,hfn,hb,hname⟩:=hf
 have:fn.body.isNone=false:=by cases e:fn.body<;>simp_all
 simp only[callFunc,Sem.run_bind,run_program,Result.andThen_ok,hfn,hname,this]
 simp
theorem Qi9{ops:Array Oper}{o:Oper}{rest:List Oper}(hg:o.guard=none){f:FuncId}{xs:Array Operand}{ts:Array TypeId}(ho:o.op= .call { callee:= .value (.func f),args:=xs,argTypes:=ts })(hf:QlD P f)
  {R:Ending→World→Prop}(hc:Calls P f (xs.map a.eval) w R)(hk:∀e w',R e w'→∃ch,e= .panicked ch∧Q (.panic ch) a w'):wpList P ops Q (o::rest) a w:=by
 have he:(execOp a.eval o).run P w= .ok (.enter f (xs.map a.eval)) w:=by
  obtain⟨dst,op,type,pos,after,guard⟩:=o
  simp only at ho;subst ho
  show(callFunc f (#[]++xs.map a.eval++ #[])).run P w=_
  rw[Qnv hf];simp
 refine wpList_plain hg fun K hK=> ?_
 unfold Oper.wp
 rw[he,Oper.upon_enter]
 refine hc.mono fun e w' hr=> ?_
 obtain⟨ch,rfl,h⟩:=hk e w' hr
 exact h
theorem Qor{ops:Array Oper}{o:Oper}{rest:List Oper}(hg:o.guard=none){x:Operand}{ts:Array TypeId}(ho:o.op= .defer { callee:= .value x,args:= #[],argTypes:=ts }){f:FuncId}{cap:Array Value}(hx:a.eval x= .func (.func f) #[] cap)
  (hk:wpList P ops Q rest ({ a with defers:= { target:= .fn (.func f) cap,args:= #[] }::a.defers }.put o.dst undef) w):wpList P ops Q (o::rest) a w:=by
 refine wpList_plain hg fun K hK=> ?_
 obtain⟨dst,op,type,pos,after,guard⟩:=o
 simp only at ho;subst ho
 unfold Oper.wp execOp
 simp only[resolve,hx,Sem.run_bind,Sem.run_pure,Result.andThen_ok,Oper.upon]
 have h2:=hK _ _ hk
 simpa[Deferred.ofValue]using h2
end
theorem QlT{ev:Operand→Value}{o:Oper}{ts:Array TypeId}(ho:o.op= .call { callee:= .builtin .recover,args:= #[],argTypes:=ts })(P:Program)(w:World):(execOp ev o).run P w= .ok .recover w:=by
 obtain⟨dst,op,type,pos,after,guard⟩:=o
 simp only at ho;subst ho
 rfl
theorem r23_0{Q:Exit→Act→List Frame→World→Prop}{a:Act}{cs:List Frame}{w:World}(h:match recoverD cs with
  |some (v,cs')=>Q .normal (a.put (some 6) v) cs' w
  |none=>Q .normal (a.put (some 6) .nilIface) cs w):p23_0.wpS Tryd.prog Q a cs w:=by
 rw[r0x_eq]
 refine wpS_region ?_
 show wpOpsS Tryd.prog #[Qa8 p23_0 0] Q [0] a cs w
 have hw:Region.wanted (Qa8 p23_0 0) (yielded #[Qa8 p23_0 0] a.tmps)=true:=by simp only[Region.wanted,o0_0.2.1]
 simp only[wpOpsS,List.getElem?_toArray,List.getElem?_cons_zero,hw,if_true,QlT o0_0.1,o0_0.2.2]
 cases hr:recoverD cs with
 |none=>rw[hr]at h;exact h
 |some p=>rw[hr]at h;exact h
section
variable {g:Gh} {H:Qaa} {w:World} {n:Nat}
abbrev ptrV(g:Gh)(n:Nat):Value:= .pointer (some ⟨g.rho n,0,none⟩)
abbrev caps(g:Gh)(n:Nat):Array Value:= #[ptrV g n,ptrV g (n+1),ptrV g (n+2)]
theorem inv23(hH:HeapOK g H w)(hn:∀b,g.own b≠ .res)(hl:n+2<g.n){x:AV}{v:Value}(hv:VR g w x v)(ht:Triv x v):
  Inv g ⟨[.ptr n 0,.ptr (n+1) 0,.ptr (n+2) 0,.tuple [],.tuple [],.tuple [],x,.tuple [],.tuple [],.tuple [],.tuple [],.tuple [],.tuple [],.tuple [],.tuple [],.tuple [],.tuple []],H⟩ (({ tmps:=caps g n++Array.replicate (17-(caps g n).size) undef,defers:= [] }:Act).put (some 6) v) w:=by
 have hi:=Qd9 (args:= [.ptr n 0,.ptr (n+1) 0,.ptr (n+2) 0]) hH hn (vals:=caps g n) rfl (fun i y u hy hu=>by
  match i,hy,hu with
  |0,hy,hu=>cases hy;cases hu;exact⟨.ptr _ _ (by omega),FOK.ne (by simp)⟩
  |1,hy,hu=>cases hy;cases hu;exact⟨.ptr _ _ (by omega),FOK.ne (by simp)⟩
  |2,hy,hu=>cases hy;cases hu;exact⟨.ptr _ _ (by omega),FOK.ne (by simp)⟩
  |k+3,hy,hu=>simp at hy) 17
 exact Inv.put (st:=⟨[.ptr n 0,.ptr (n+1) 0,.ptr (n+2) 0,.tuple [],.tuple [],.tuple [],.tuple [],.tuple [],.tuple [],.tuple [],.tuple [],.tuple [],.tuple [],.tuple [],.tuple [],.tuple [],.tuple []],H⟩) (d:=6) hi hv ht
theorem QoJ(hS:EnvS Tryd.prog pf X0 XP)(hH:HeapOK g H w)(hn:∀b,g.own b≠ .res)(hl:n+2<g.n):
  CallsD Tryd.prog 23 (caps g n) .returning w fun e u' w'=>(∃v,e= .returned v)∧u'= .returning∧∃g',WF g w g' w'∧HeapOK g' H w'∧∀b,g'.own b≠ .res:=by
 refine callsD_of_wpS Tryd.func23 body23 fun c₀ cs hu=> ?_
 rw[b23_eq,nt23]
 refine wpS_seq (r23_0 ?_)
 have hr:recoverD (c₀::cs)=none:=by simp only[recoverD,hu]
 rw[hr]
 show Code.wpS _ _ _ _ _ _
 have hi:=inv23 hH hn hl (x:= .niliface) (v:= .nilIface) .niliface (fun xs e=>by cases e)
 refine wpS_of_wp (wp_block (wp_seq (QfA hS k23_3 rfl hi (Nat.zero_le _) (v23_3n (fun _=> .tuple [])) ?_ (fun _ h=>h.elim))))
 rintro e st1 g1 a1 w1 ⟨rfl,x1,rfl⟩ hw1 hi1 hx1
 show Code.wp Tryd.prog (.cond (.tmp 8) _ _) _ a1 w1
 refine wp_cond (Inv.bool (b:=true) hi1 rfl) ?_
 rw[if_pos rfl]
 refine QfA hS k23_4 rfl hi1 (Nat.zero_le _) (v23_4 (fun i=>if i=8 then boolD true else x1 i)) ?_ (fun _ h=>h.elim)
 rintro e st2 g2 a2 w2 ⟨rfl,x2,rfl⟩ hw2 hi2 hx2
 obtain⟨v,hv1,hv2,hv3⟩:=Qhf hi2 res23 (show Qcc _ _ []=some []from rfl)
 refine⟨hi2.defers,.returning,by cases c₀;simp_all,v,hv1,⟨v,rfl⟩,rfl,g2,hw1.trans hw2,hi2.heap,hi2.nores⟩
theorem Qn1{ev:Operand→Value}{o:Oper}{x:Operand}(ho:o.op= .typeAssert x 20 45 true){v:Value}(hx:ev x= .iface 45 v)(w:World):(execOp ev o).run Tryd.prog w= .ok (.value (.tuple #[v,.bool true])) w:=by
 obtain⟨dst,op,type,pos,after,guard⟩:=o
 simp only at ho;subst ho
 unfold execOp
 simp only[hx]
 kernel_rfl
theorem Qoq{P:Program}{a:Act}{Q:Exit→Act→World→Prop}{ops:Array Oper}{o:Oper}{rest:List Oper}(hg:o.guard=none){v:Value}(he:(execOp a.eval o).run P w= .ok (.value v) w)(hk:wpList P ops Q rest (a.put o.dst v) w):wpList P ops Q (o::rest) a w:=by
 refine wpList_plain hg fun K hK=> ?_
 unfold Oper.wp
 rw[he]
 exact hK _ _ hk
abbrev Qit(H:Qaa)(n:Nat)(e p:Int):Qaa:=(((H++ [AObj.cells [intD e,intD p]]).set n zO).set (n+1) (nO e)).set (n+2) (nO p)
theorem QqG(hS:EnvS Tryd.prog pf X0 XP)(hH:HeapOK g H w)(hn:∀b,g.own b≠ .res)(hl:n+2<g.n){c1 c2 c3 c4 c5:AV}{a b e p:Int}{v:Value}(o1:H[n]? =some (.cells [c1,c2,c3,c4,c5]))(o2:H[n+1]? =some (nO a))(o3:H[n+2]? =some (nO b))
  (hv:VR g w (.d (.agg [.int .i64 e,.int .i64 p])) v):
  CallsD Tryd.prog 23 (caps g n) (.panicking [{ v:= .iface 45 v,recovered:=false }]) w fun z u' w'=>(∃v,z= .returned v)∧settle u'= .returning∧∃g',WF g w g' w'∧HeapOK g' (Qit H n e p) w'∧∀b,g'.own b≠ .res:=by
 refine callsD_of_wpS Tryd.func23 body23 fun c₀ cs hu=> ?_
 rw[b23_eq,nt23]
 refine wpS_seq (r23_0 ?_)
 have hr:recoverD (c₀::cs)=some (.iface 45 v,{ c₀ with mode:= .panicking [{ v:= .iface 45 v,recovered:=true }] }::cs):=by simp only[recoverD,hu]
 rw[hr]
 show Code.wpS _ _ _ _ _ _
 have hnl:H.length=g.n:=hH.n.symm
 have hi:=inv23 hH hn hl (x:= .iface 45 (.d (.agg [.int .i64 e,.int .i64 p]))) (v:= .iface 45 v) (.iface _ _ _ hv (Triv.d _ _)) (fun xs e=>by cases e)
 refine wpS_of_wp (wp_block (wp_seq (QfA hS k23_3 rfl hi (Nat.zero_le _) (v23_3p (fun _=> .tuple [])) ?_ (fun _ h=>h.elim))))
 rintro z st1 g1 a1 w1 ⟨rfl,x1,rfl⟩ hw1 hi1 hx1
 show Code.wp Tryd.prog (.cond (.tmp 8) _ _) _ a1 w1
 refine wp_cond (Inv.bool (b:=false) hi1 rfl) ?_
 rw[if_neg (by simp)]
 have h6:=(Qb6 hi1 6).1
 rw[show(St.T _).getD 6 .undef= .iface 45 (.d (.agg [.int .i64 e,.int .i64 p]))from rfl]at h6
 have h6':a1.eval (.tmp 6)=a1.tmps.getD 6 undef:=rfl
 generalize a1.tmps.getD 6 undef=u6 at h6 h6'
 cases h6 with
 |iface _ _ v6 hv6 ht6=>
 rw[r5x_eq]
 refine wp_seq (wp_region_list (Qoq o5_0.2.1 (Qn1 o5_0.1 h6' w1) ?_))
 rw[o5_0.2.2]
 have hvt:VR g1 w1 (.tuple [.d (.agg [.int .i64 e,.int .i64 p]),boolD true]) (.tuple #[v6,.bool true]):=by
  refine .tuple _ _ rfl (fun i c u hc hu=> ?_) (fun i c u hc hu=> ?_)
  ·match i,hc,hu with
   |0,hc,hu=>cases hc;cases hu;exact hv6
   |1,hc,hu=>cases hc;cases hu;exact .d _ _ (.bool _)
   |k+2,hc,hu=>simp at hc
  ·match i,hc,hu with
   |0,hc,hu=>cases hc;exact Triv.d _ _
   |1,hc,hu=>cases hc;exact Triv.d _ _
   |k+2,hc,hu=>simp at hc
 have hi2:=hi1.put (d:=9) hvt (fun xs e=>by cases e)
 refine QfU (lim:=0) (hS.e 0) _ _ c5_x hi2 (Nat.zero_le _) (show runOps _ _ _ _=some ⟨[.ptr n 0,.ptr (n+1) 0,.ptr (n+2) 0,x1 3,x1 4,x1 5,.iface 45 (.d (.agg [.int .i64 e,.int .i64 p])),x1 7,boolD false,.tuple [.d (.agg [.int .i64 e,.int .i64 p]),boolD true],boolD true,.d (.agg [.int .i64 e,.int .i64 p]),x1 12,x1 13,x1 14,x1 15,x1 16],H⟩from rfl) ?_
 intro g3 a3 w3 hw3 hi3 hx3
 show Code.wp Tryd.prog (.cond (.tmp 10) _ _) _ a3 w3
 refine wp_cond (Inv.bool (b:=true) hi3 rfl) ?_
 rw[if_pos rfl]
 refine wp_seq (QfA hS k23_6 rfl hi3 (Nat.zero_le _) (v23_6 (fun i=>if i=6 then .iface 45 (.d (.agg [.int .i64 e,.int .i64 p]))else if i=8 then boolD false else if i=9 then .tuple [.d (.agg [.int .i64 e,.int .i64 p]),boolD true]else if i=10 then boolD true else x1 i) (Nat.zero_le _)) ?_ (fun _ h=>h.elim))
 rintro z st4 g4 a4 w4 ⟨rfl,x4,rfl⟩ hw4 hi4 hx4
 show Code.wp Tryd.prog p23_7 _ a4 w4
 have more:∀ {i:Nat} {o:AObj},H[i]? =some o→(H++ [AObj.cells [intD e,intD p]])[i]? =some o:=fun h=>by rw[List.getElem?_append_left (List.getElem?_eq_some_iff.1 h).1];exact h
 refine QfA hS k23_7 rfl hi4 (Nat.zero_le _) (v23_7 x4 (more o1) (more o2) (more o3) (show _=some (AObj.cells [intD e,intD p]) by simp) (by omega) (Nat.zero_le _)) ?_ (fun _ h=>h.elim)
 rintro z st5 g5 a5 w5 ⟨rfl,x5,rfl⟩ hw5 hi5 hx5
 obtain⟨v,hv1,hv2,hv3⟩:=Qhf hi5 res23 (show Qcc _ _ []=some []from rfl)
 exact⟨hi5.defers,_,rfl,v,hv1,⟨v,rfl⟩,rfl,g5,((hw1.trans hw3).trans hw4).trans hw5,hi5.heap,hi5.nores⟩
end
end Go.Proofs.YtmhmjlfajlpabaaDoor
set_option maxHeartbeats 1000000
set_option linter.unusedVariables false
namespace Go.Proofs.YtmhmjlfajlpabaaDoor
open Go Go.Abs Go.Proofs Go.RowKit Go.Lib
def DRes(g0:Gh)(w0:World)(H0:Qaa)(s:Tx)(e:Ending)(w':World):Prop:=
 ∃v g',e= .returned v∧WF g0 w0 g' w'∧HeapOK g' H0 w'∧VR g' w' (QbC (QaA s)) v
abbrev dcl(c:Array Value):Deferred:= { target:= .fn (.func 23) c,args:= #[] }
def Gh.unres(g:Gh):Gh:=g.relabel .res .mine
theorem QgB(g:Gh)(w:World):WF g w (Gh.unres g) w where
 os:=rfl
 tape:=rfl
 output:=rfl
 size:=Nat.le_refl _
 idle x _ ho:=by
  have:g.own x≠ .res:=by rcases ho with h|h<;>rw[h]<;>simp
  simp[Gh.unres,Gh.relabel,this]
 stays b i hi:=⟨hi,rfl⟩
 n:=Nat.le_refl _
 rho _ _:=rfl
 out x hx:=by
  simp only[Gh.unres,Gh.relabel]at hx
  split at hx
  ·cases hx
  ·exact hx
 mine x hx:=by simp[Gh.unres,Gh.relabel,hx]
theorem Qon{g:Gh}{H:Qaa}{w:World}(h:HeapOK g H w):HeapOK (Gh.unres g) H w where
 n:=h.n
 own r hr ha:=by
  obtain⟨h1,h2⟩:=h.own r hr ha
  exact⟨by simp[Gh.unres,Gh.relabel,h1],h2⟩
 obj r o ho:=by
  have hr:r<g.n:=by rw[h.n];exact(List.getElem?_eq_some_iff.1 ho).1
  exact(h.obj r o ho).keep (QgB g w) hr (fun _=>rfl) (fun j a v hf=>hf.keep fun x hx=>⟨by simp[Gh.unres,Gh.relabel,hx],rfl,fun cs e fr hh hz=>⟨cs,fr,hh,rfl,hz⟩⟩)
 new x hx:=by
  obtain⟨h1,h2⟩:=h.new x hx
  exact⟨by simp[Gh.unres,Gh.relabel,h1],h2⟩
 glob n cs hn:=(QgB g w).vr (h.glob n cs hn)
theorem no_unres(g:Gh)(b:Nat):(Gh.unres g).own b≠ .res:=by
 simp only[Gh.unres,Gh.relabel]
 split
 ·simp
 ·assumption
theorem Ext.get{lim:Nat}{H H':Qaa}(h:Ext lim H H'){i:Nat}(hi:i<lim):H'[i]? =H[i]? :=by
 have:=congrArg (fun l=>l[i]?) h.2
 simpa only[List.getElem?_take,if_pos hi]using this
section
variable {g0:Gh} {w0:World} {H0:Qaa} {s:Tx}
theorem Qmr [Dfr](h0:HeapOK g0 H0 w0){g:Gh}{st:St}{a:Act}{w:World}(hw:WF g0 w0 g w)(hi:Inv g st a w){j:D}{e p:Int}(hr:Qcc st.T st.H [.cell 2 true 5,.cell 3 false 1,.cell 4 false 1]=some [.d j,intD e,intD p])(hx:Ext H0.length H0 st.H)
  (hd:QbC (QaA s)= .tuple [.d j,intD e,intD p]):∃v,(results Tryd.f10 a.tmps).run Tryd.prog w= .ok v w∧DRes g0 w0 H0 s (.returned v) w:=by
 obtain⟨v,hv1,hv2,_⟩:=Qhf hi res10 hr
 refine⟨v,hv1,v,g.cut w H0.length,rfl,QmJ hw h0.n,Qnp h0 hi.heap hx, ?_⟩
 rw[hd]
 exact QhO hi.heap hv2 rfl
theorem Qnl(c:Array Value)(w:World):(invoke (.fn (.func 23) c) #[]).run Tryd.prog w= .ok (.enter 23 c) w:=by
 have hf:QlD Tryd.prog 23:=⟨_,Tryd.func23,by kernel_rfl,by kernel_rfl⟩
 have:=Qnv hf (#[]++c) w
 show(callFunc 23 (#[]++c)).run Tryd.prog w=_
 rw[this];simp
theorem Qcu{g g':Gh}{w w':World}{n:Nat}(hw:WF g w g' w')(hl:n+2<g.n):caps g' n=caps g n:=by
 simp only[caps,ptrV,hw.rho n (by omega),hw.rho (n+1) (by omega),hw.rho (n+2) hl]
theorem Inv.boolD' [Dfr]{g:Gh}{st:St}{a:Act}{w:World}(h:Inv g st a w){i:Nat}{b:Bool}(hT:st.T.getD i .undef=boolD b):a.eval (.tmp i)= .bool b:=by
 have:=(Qb6 h i).1
 rw[hT]at this
 show a.tmps.getD i undef=_
 generalize a.tmps.getD i undef=v at this
 cases this with
 |d _ _ h=>cases h;rfl
theorem Inv.ptrD [Dfr]{g:Gh}{st:St}{a:Act}{w:World}(h:Inv g st a w){i n:Nat}(hT:st.T.getD i .undef= .ptr n 0):a.eval (.tmp i)= .pointer (some ⟨g.rho n,0,none⟩):=by
 have:=(Qb6 h i).1
 rw[hT]at this
 show a.tmps.getD i undef=_
 generalize a.tmps.getD i undef=v at this
 cases this;rfl
theorem Inv.numD [Dfr]{g:Gh}{st:St}{a:Act}{w:World}(h:Inv g st a w){i:Nat}{k:IntKind}{n:Int}(hT:st.T.getD i .undef= .d (.int k n)):a.eval (.tmp i)= .int k n:=by
 have:=(Qb6 h i).1
 rw[hT]at this
 show a.tmps.getD i undef=_
 generalize a.tmps.getD i undef=v at this
 cases this with
 |d _ _ h=>cases h;rfl
theorem Inv.funcD [Dfr]{g:Gh}{st:St}{a:Act}{w:World}(h:Inv g st a w){i n:Nat}(hT:st.T.getD i .undef= .func (.func 23) [.ptr n 0,.ptr (n+1) 0,.ptr (n+2) 0]):a.eval (.tmp i)= .func (.func 23) #[] (caps g n):=by
 have:=(Qb6 h i).1
 rw[hT]at this
 show a.tmps.getD i undef=_
 generalize a.tmps.getD i undef=v at this
 cases this with
 |func _ _ vs hl h ht=>
  congr 1
  apply Array.ext
  ·simpa using hl.symm
  ·intro k hk1 hk2
   simp only[caps,List.size_toArray,List.length_cons,List.length_nil]at hk2
   have h1:vs[k]? =some vs[k]:=Array.getElem?_eq_getElem hk1
   match k,hk2 with
   |0,_=>have:=h 0 _ _ rfl h1;generalize vs[0]=u at this;cases this;rfl
   |1,_=>have:=h 1 _ _ rfl h1;generalize vs[1]=u at this;cases this;rfl
   |2,_=>have:=h 2 _ _ rfl h1;generalize vs[2]=u at this;cases this;rfl
abbrev QmR:List AV:=List.replicate 44 .undef
theorem QnA [Dfr](hS:EnvS Tryd.prog pf X0 XP)(h0:HeapOK g0 H0 w0){c:Array Value}(hd:Dfr.ds= [dcl c]){g:Gh}{T:List AV}{a:Act}{w:World}{c1 c2 c3 c4 c5:AV}{a1 b1:Int}{o:AObj}(hw:WF g0 w0 g w)(hc:caps g H0.length=c)
  (hi:Inv g ⟨T,H0++ [.cells [c1,c2,c3,c4,c5],nO a1,nO b1,o]⟩ a w)(hT:T.length=49)(hT2:T[2]? =some (.ptr H0.length 0))(hT3:T[3]? =some (.ptr (H0.length+1) 0))(hT4:T[4]? =some (.ptr (H0.length+2) 0))
  {g':Gh}{H':Qaa}{w':World}{v:Value}{e p:Nat}(hw':WF g w g' w')(hx:Ext (H0.length+3) (H0++ [.cells [c1,c2,c3,c4,c5],nO a1,nO b1,o]) H')(hH':HeapOK g' H' w')(hv:VR g' w' (.d (.agg [.int .i64 e,.int .i64 p])) v)(hds:QaA s= .error (e,p)):
  Leaves Tryd.prog Tryd.f10 a.tmps (DRes g0 w0 H0 s) a.defers (.panicking [{ v:= .iface 45 v,recovered:=false }]) w':=by
 obtain⟨K,kk,k1,k2,k3,k4,_⟩:=Qqi H0
 rw[←kk]at hi hx
 have hgn:g.n=H0.length+4:=by rw[hi.heap.n,kk];simp
 have hw1:=hw'.trans (QgB g' w')
 have hH1:=Qon hH'
 have hgn1:H0.length+2<(Gh.unres g').n:=Nat.lt_of_lt_of_le (by omega) hw1.n
 rw[hi.defers,hd]
 have o1:=(Ext.get hx (show H0.length<H0.length+3 by omega)).trans (k1 _ _ _ _)
 have o2:=(Ext.get hx (show H0.length+1<H0.length+3 by omega)).trans (k2 _ _ _ _)
 have o3:=(Ext.get hx (show H0.length+2<H0.length+3 by omega)).trans (k3 _ _ _ _)
 have hlen:=hx.1
 rw[kk]at hlen
 simp only[List.length_append,List.length_cons,List.length_nil]at hlen
 refine leaves_cons (f:=23) (args:=c) (by simp) (Qnl c _) ?_
 rw[←hc,←Qcu hw1 (by omega)]
 refine(QqG hS hH1 (no_unres g') hgn1 o1 o2 o3 ((QgB g' w').vr hv)).mono ?_
 rintro z u' w2 ⟨⟨v2,rfl⟩,hu,g2,hw2,hH2,hn2⟩
 show Leaves Tryd.prog Tryd.f10 a.tmps (DRes g0 w0 H0 s) [] (settle u') w2
 rw[hu]
 have hwk:=Inv.weak hi (T:= [.undef,.undef,.ptr H0.length 0,.ptr (H0.length+1) 0,.ptr (H0.length+2) 0]++QmR) (by rw[hT];rfl) fun i x hx=>by
  match i,hx with
  |0,hx=>cases hx;exact .inl rfl
  |1,hx=>cases hx;exact .inl rfl
  |2,hx=>cases hx;exact .inr hT2
  |3,hx=>cases hx;exact .inr hT3
  |4,hx=>cases hx;exact .inr hT4
  |k+5,hx=>
   have:QmR[k]? =some x:=hx
   exact .inl (List.eq_of_mem_replicate (List.mem_of_getElem? this))
 have him:=Inv.move hwk (hw1.trans hw2) hH2 hn2 fun x hx xs=>by
  rcases List.mem_append.1 hx with h|h
  ·simp only[List.mem_cons,List.not_mem_nil,or_false]at h
   rcases h with rfl|rfl|rfl|rfl|rfl<;>simp
  ·rw[List.eq_of_mem_replicate h];simp
 have s1:(Qit H' H0.length e p)[H0.length]? =some zO:=by
  unfold Qit
  rw[List.getElem?_set_ne (by omega),List.getElem?_set_ne (by omega),List.getElem?_set_self (by simp;omega)]
 have s2:(Qit H' H0.length e p)[H0.length+1]? =some (nO e):=by
  unfold Qit
  rw[List.getElem?_set_ne (by omega),List.getElem?_set_self (by simp;omega)]
 have s3:(Qit H' H0.length e p)[H0.length+2]? =some (nO p):=by
  unfold Qit
  rw[List.getElem?_set_self (by simp;omega)]
 refine Qmr h0 (hw.trans (hw1.trans hw2)) him (j:=J.zero.d) (e:=e) (p:=p) ?_ ?_ (by rw[hds])
 ·simp only[Qcc,List.cons_append,List.nil_append,List.getD_cons_succ,List.getD_cons_zero,s1,s2,s3]
  rfl
 ·refine⟨by simp[Qit];omega, ?_⟩
  have e1:(Qit H' H0.length e p).take H0.length=H'.take H0.length:=by
   unfold Qit
   rw[List.take_set_of_le (by omega),List.take_set_of_le (by omega),List.take_set_of_le (by omega),List.take_append_of_le_length (by omega)]
  have e2:=(Ext.less hx (show H0.length≤H0.length+3 by omega)).2
  rw[e1,e2,kk,List.take_append_of_le_length (Nat.le_refl _)]
end
end Go.Proofs.YtmhmjlfajlpabaaDoor
set_option maxHeartbeats 2000000
set_option linter.unusedVariables false
namespace Go.Proofs.YtmhmjlfajlpabaaDoor
open Go Go.Abs Go.Proofs Go.RowKit Go.Lib
abbrev D5(n:Nat)(x:Nat→AV):List AV:= [x 0,x 1,.ptr n 0,.ptr (n+1) 0,.ptr (n+2) 0,.ptr (n+3) 0,x 6,x 7,x 8,x 9,x 10,x 11,x 12,x 13,x 14,x 15,x 16,x 17,x 18,x 19,x 20,x 21,x 22,x 23,x 24,x 25,x 26,x 27,x 28,x 29,x 30,x 31,x 32,x 33,x 34,x 35,x 36,x 37,x 38,x 39,x 40,x 41,x 42,x 43,x 44,x 45,x 46,x 47,x 48]
noncomputable abbrev restC:Code:= .seq p10_8 (.seq Qe9 (.seq Qm7 (.seq (.seq Qm6 (.cond (.tmp 40) QbT .skip)) (.seq Qm5 .ret))))
section
variable {g0:Gh} {w0:World} {H0:Qaa} {s:Tx}
theorem Ext4{H0 K:Qaa}{lim:Nat}(h:lim≤H0.length)(l:List AObj):Ext lim H0 (H0++l):=⟨by simp,List.take_append_of_le_length h⟩
theorem dec_rest [Dfr](hS:EnvS Tryd.prog pf X0 XP)(h0:HeapOK g0 H0 w0){c:Array Value}(hd:Dfr.ds= [dcl c])(hs:s.length≤16384)(hbr:¬0≤Qaw s){g:Gh}{a:Act}{w:World}{x:Nat→AV}(hw:WF g0 w0 g w)(hc:caps g H0.length=c)
  (hi:Inv g ⟨D5 H0.length x,H0++ [zO,nO 0,nO 0,rdO s (0:Nat)]⟩ a w):restC.wp Tryd.prog (bodyPostD Tryd.prog Tryd.f10 (DRes g0 w0 H0 s)) a w:=by
 have hll:∀(a b c d:AObj),H0.length≤(H0++ [a,b,c,d]).length:=fun _ _ _ _=>by simp
 have hll3:∀(a b c d:AObj),H0.length+3≤(H0++ [a,b,c,d]).length:=fun _ _ _ _=>by simp
 have hgn:∀ {g:Gh} {T:List AV} {a b c d:AObj} {ac:Act} {w:World},Inv g ⟨T,H0++ [a,b,c,d]⟩ ac w→H0.length+2<g.n:=fun h=>by rw[h.heap.n];simp
 refine wp_seq (QfA hS k10_8 rfl hi (hll _ _ _ _) (v10_8 x (by omega) hs) ?_ (fun _ h=>h.elim))
 rintro z st1 g1 a1 w1 ⟨rfl,x1,rfl⟩ hw1 hi1 hx1
 have hc1:=(Qcu hw1 (hgn hi)).trans hc
 have hb0:=(Qbz s 0).2 (Nat.zero_le _)
 generalize hp:Qac s 0=p at hi1 hb0
 have hval:=(Qkh (2*s.length+3)) (H0.length+3) (H0++ [zO,nO 0,nO 0,rdO s p]) (H0.length+3) s p 1 (by rw[List.getElem?_append_right (by omega)];simp) (Nat.le_refl _) hs hb0 (by omega) (by omega)
 have hds:QaA s=match QaB s (2*s.length+3) 1 p with
  |.error e=> .error e
  |.ok (j,q)=>if Qac s q<s.length then .error (16,Qac s q)else .ok (Qaf j):=by
  unfold QaA
  rw[if_neg (by omega),if_neg hbr,hp]
  cases QaB s (2*s.length+3) 1 p with
  |error e=>rfl
  |ok y=>rfl
 show Code.wp Tryd.prog (.seq Qe9 _) _ a1 w1
 cases hv:QaB s (2*s.length+3) 1 p with
 |error er=>
  rw[hv]at hds
  have hP:=hval.noJ hv
  unfold EvP at hP
  obtain⟨k0,hP⟩:=hP
  rw[r9x_eq]
  refine wp_seq (wp_region_list ?_)
  refine QbV (lim:=H0.length) (E:=X0 0) c9_0 (hS.e 0) hi1 (hll _ _ _ _) (show stepOp _ _ _ _=some ⟨(D5 H0.length x1).set 27 (.ptr (H0.length+3) 0),_⟩from rfl) ?_
  intro g2 a2 w2 hw2 hi2 hx2
  obtain⟨hf,hcall⟩:=hS.p k0 25 (H0.length+3) [.ptr (H0.length+3) 0,intD ((1:Nat):Int)] _ _ _ (hP k0 (Nat.le_refl _)) (hll3 _ _ _ _)
  have hvals:(#[Operand.tmp 27,.const (.int .i64 1)].map a2.eval)= #[a2.eval (.tmp 27),.int .i64 1]:=by simp[Act.eval]
  refine Qi9 o9_1.2 o9_1.1 hf (hcall (#[Operand.tmp 27,.const (.int .i64 1)].map a2.eval) g2 w2 hi2.heap hi2.nores (by simp) ?_) ?_
  ·rw[hvals,Inv.ptrD (n:=H0.length+3) hi2 rfl]
   intro i y u hy hu
   match i,hy,hu with
   |0,hy,hu=>cases hy;cases hu;exact⟨.ptr _ _ (by rw[hi2.heap.n];simp),fun xs e=>by cases e⟩
   |1,hy,hu=>cases hy;cases hu;exact⟨.d _ _ (.int _ _),Triv.d _ _⟩
   |k+2,hy,hu=>simp at hy
  ·rintro e w' ⟨v,g',H',rfl,hw',hx',hH',hv'⟩
   refine⟨_,rfl, ?_⟩
   have hc2:=(Qcu hw2 (hgn hi1)).trans hc1
   exact QnA hS h0 hd ((hw.trans hw1).trans hw2) hc2 hi2 rfl rfl rfl rfl hw' hx' hH' hv' hds
 |ok y=>
  obtain⟨j,q⟩:=y
  rw[hv]at hds
  simp only at hds
  have hvl:=QgE hv
  have hbq:=(Qbz s q).2 hvl.2
  obtain⟨⟨no,hno⟩,hnw⟩:=QgZ hv
  refine wp_seq (QfA hS k10_9 rfl hi1 (hll _ _ _ _) (v10_9 x1 (Nat.le_refl _) hs hb0 hv) ?_ (fun _ h=>h.elim))
  rintro z st2 g2 a2 w2 ⟨rfl,x2,rfl⟩ hw2 hi2 hx2
  have hc2:=(Qcu hw2 (hgn hi1)).trans hc1
  show Code.wp Tryd.prog (.seq Qm7 _) _ a2 w2
  refine wp_seq (QfA hS k10_10 rfl hi2 (hll _ _ _ _) (v10_10 x2 (by omega) hs hvl.2) ?_ (fun _ h=>h.elim))
  rintro z st3 g3 a3 w3 ⟨rfl,x3,rfl⟩ hw3 hi3 hx3
  have hc3:=(Qcu hw3 (hgn hi2)).trans hc2
  generalize hbs:Qac s q=q' at hi3 hds hbq
  show Code.wp Tryd.prog (.seq (.seq Qm6 _) _) _ a3 w3
  refine wp_seq (wp_seq (QfA hS k10_11 rfl hi3 (hll _ _ _ _) (v10_11 (lim:=H0.length) x3) ?_ (fun _ h=>h.elim)))
  rintro z st4 g4 a4 w4 ⟨rfl,x,rfl⟩ hw4 hi4 hx4
  have hc4:=(Qcu hw4 (hgn hi3)).trans hc3
  show Code.wp Tryd.prog (.cond (.tmp 40) _ _) _ a4 w4
  refine wp_cond (Inv.boolD' (b:=decide (q'<s.length)) hi4 rfl) ?_
  by_cases hq:q'<s.length
  ·rw[if_pos hq]at hds
   rw[decide_eq_true hq,if_pos rfl]
   have hP:=Qbg (pr:=Qbi) (pP:=Qd4) (H0.length+3) (H0++ [jO j,nO 0,nO 0,rdO s q']) (H0.length+3) 16 q'
   unfold EvP at hP
   obtain⟨k0,hP⟩:=hP
   rw[r12x_eq]
   refine wp_region_list ?_
   have gk:(H0++ [jO j,nO 0,nO 0,rdO s q'])[H0.length+3]? =some (rdO s q'):=by rw[List.getElem?_append_right (by omega)];simp
   refine QbV (lim:=H0.length) (E:=X0 0) c12_0 (hS.e 0) hi4 (hll _ _ _ _) (st':=⟨[x 0,x 1,.ptr H0.length 0,.ptr (H0.length+1) 0,.ptr (H0.length+2) 0,.ptr (H0.length+3) 0,x 6,x 7,x 8,x 9,x 10,x 11,x 12,x 13,x 14,x 15,x 16,x 17,x 18,x 19,x 20,x 21,x 22,x 23,x 24,x 25,x 26,x 27,x 28,x 29,x 30,x 31,x 32,x 33,x 34,x 35,x 36,x 37,x 38,x 39,boolD (decide (q'<s.length)),.ptr (H0.length+3) 0,x 42,x 43,x 44,x 45,x 46,x 47,x 48],_⟩) rfl ?_
   intro g5 a5 w5 hw5 hi5 hx5
   refine QbV (lim:=H0.length) (E:=X0 0) c12_1 (hS.e 0) hi5 (hll _ _ _ _) (st':=⟨[x 0,x 1,.ptr H0.length 0,.ptr (H0.length+1) 0,.ptr (H0.length+2) 0,.ptr (H0.length+3) 0,x 6,x 7,x 8,x 9,x 10,x 11,x 12,x 13,x 14,x 15,x 16,x 17,x 18,x 19,x 20,x 21,x 22,x 23,x 24,x 25,x 26,x 27,x 28,x 29,x 30,x 31,x 32,x 33,x 34,x 35,x 36,x 37,x 38,x 39,boolD (decide (q'<s.length)),.ptr (H0.length+3) 0,.ptr (H0.length+3) 0,x 43,x 44,x 45,x 46,x 47,x 48],_⟩) rfl ?_
   intro g6 a6 w6 hw6 hi6 hx6
   refine QbV (lim:=H0.length) (E:=X0 0) c12_2 (hS.e 0) hi6 (hll _ _ _ _) (st':=⟨[x 0,x 1,.ptr H0.length 0,.ptr (H0.length+1) 0,.ptr (H0.length+2) 0,.ptr (H0.length+3) 0,x 6,x 7,x 8,x 9,x 10,x 11,x 12,x 13,x 14,x 15,x 16,x 17,x 18,x 19,x 20,x 21,x 22,x 23,x 24,x 25,x 26,x 27,x 28,x 29,x 30,x 31,x 32,x 33,x 34,x 35,x 36,x 37,x 38,x 39,boolD (decide (q'<s.length)),.ptr (H0.length+3) 0,.ptr (H0.length+3) 0,.ptr (H0.length+3) 0,x 44,x 45,x 46,x 47,x 48],_⟩) rfl ?_
   intro g7 a7 w7 hw7 hi7 hx7
   refine QbV (lim:=H0.length) (E:=X0 0) c12_3 (hS.e 0) hi7 (hll _ _ _ _) (st':=⟨[x 0,x 1,.ptr H0.length 0,.ptr (H0.length+1) 0,.ptr (H0.length+2) 0,.ptr (H0.length+3) 0,x 6,x 7,x 8,x 9,x 10,x 11,x 12,x 13,x 14,x 15,x 16,x 17,x 18,x 19,x 20,x 21,x 22,x 23,x 24,x 25,x 26,x 27,x 28,x 29,x 30,x 31,x 32,x 33,x 34,x 35,x 36,x 37,x 38,x 39,boolD (decide (q'<s.length)),.ptr (H0.length+3) 0,.ptr (H0.length+3) 0,.ptr (H0.length+3) 0,.ptr (H0.length+3) 1,x 45,x 46,x 47,x 48],_⟩) rfl ?_
   intro g8 a8 w8 hw8 hi8 hx8
   refine QbV (lim:=H0.length) (E:=X0 0) c12_4 (hS.e 0) hi8 (hll _ _ _ _) (st':=⟨[x 0,x 1,.ptr H0.length 0,.ptr (H0.length+1) 0,.ptr (H0.length+2) 0,.ptr (H0.length+3) 0,x 6,x 7,x 8,x 9,x 10,x 11,x 12,x 13,x 14,x 15,x 16,x 17,x 18,x 19,x 20,x 21,x 22,x 23,x 24,x 25,x 26,x 27,x 28,x 29,x 30,x 31,x 32,x 33,x 34,x 35,x 36,x 37,x 38,x 39,boolD (decide (q'<s.length)),.ptr (H0.length+3) 0,.ptr (H0.length+3) 0,.ptr (H0.length+3) 0,.ptr (H0.length+3) 1,intD q',x 46,x 47,x 48],H0++ [jO j,nO 0,nO 0,rdO s q']⟩) ?_ ?_
   ·simp only[zz,simprocAttr,gk]
   intro g9 a9 w9 hw9 hi9 hx9
   obtain⟨hf,hcall⟩:=hS.p k0 26 (H0.length+3) [.ptr (H0.length+3) 0,intD ((16:Nat):Int),intD q'] _ _ _ (hP k0 (Nat.le_refl _)) (hll3 _ _ _ _)
   have hvals:(#[Operand.tmp 41,.const (.int .i64 16),.tmp 45].map a9.eval)= #[a9.eval (.tmp 41),.int .i64 16,a9.eval (.tmp 45)]:=by simp[Act.eval]
   have hw49:=((((hw5.trans hw6).trans hw7).trans hw8).trans hw9)
   have hc9:=(Qcu hw49 (hgn hi4)).trans hc4
   refine Qi9 o12_5.2 o12_5.1 hf (hcall (#[Operand.tmp 41,.const (.int .i64 16),.tmp 45].map a9.eval) g9 w9 hi9.heap hi9.nores (by simp) ?_) ?_
   ·rw[hvals,Inv.ptrD (n:=H0.length+3) hi9 rfl,Inv.numD (k:= .i64) (n:=q') hi9 rfl]
    intro i y u hy hu
    match i,hy,hu with
    |0,hy,hu=>cases hy;cases hu;exact⟨.ptr _ _ (by rw[hi9.heap.n];simp),fun xs e=>by cases e⟩
    |1,hy,hu=>cases hy;cases hu;exact⟨.d _ _ (.int _ _),Triv.d _ _⟩
    |2,hy,hu=>cases hy;cases hu;exact⟨.d _ _ (.int _ _),Triv.d _ _⟩
    |k+3,hy,hu=>simp at hy
   ·rintro e w' ⟨v,g',H',rfl,hw',hx',hH',hv'⟩
    refine⟨_,rfl, ?_⟩
    exact QnA hS h0 hd (((((hw.trans hw1).trans hw2).trans hw3).trans hw4).trans hw49) hc9 hi9 rfl rfl rfl rfl hw' hx' hH' hv' hds
  ·rw[if_neg hq]at hds
   rw[decide_eq_false hq,if_neg (by simp)]
   refine wp_skip ?_
   show Code.wp Tryd.prog (.seq Qm5 .ret) _ a4 w4
   refine wp_seq (QfA hS k10_13 rfl hi4 (hll _ _ _ _) (v10_13 (fun i=>if i=40 then boolD (decide (q'<s.length))else x i) (Nat.le_refl _) hno (by omega)) ?_ (fun _ h=>h.elim))
   rintro z st5 g5 a5 w5 ⟨rfl,x5,rfl⟩ hw5 hi5 hx5
   have hc5:=(Qcu hw5 (hgn hi4)).trans hc4
   refine wp_ret ?_
   show Leaves Tryd.prog Tryd.f10 a5.tmps (DRes g0 w0 H0 s) a5.defers .returning w5
   rw[hi5.defers,hd]
   refine leaves_cons (f:=23) (args:=c) (by simp) (Qnl c _) ?_
   rw[←hc5]
   refine(QoJ hS hi5.heap hi5.nores (hgn hi5)).mono ?_
   rintro z u' w6 ⟨⟨v2,rfl⟩,rfl,g6,hw6,hH6,hn6⟩
   show Leaves Tryd.prog Tryd.f10 a5.tmps (DRes g0 w0 H0 s) [] .returning w6
   have hwk:=Inv.weak hi5 (T:= [.undef,.undef,.ptr H0.length 0,.ptr (H0.length+1) 0,.ptr (H0.length+2) 0]++QmR) rfl fun i x hx=>by
    match i,hx with
    |0,hx=>cases hx;exact .inl rfl
    |1,hx=>cases hx;exact .inl rfl
    |2,hx=>cases hx;exact .inr rfl
    |3,hx=>cases hx;exact .inr rfl
    |4,hx=>cases hx;exact .inr rfl
    |k+5,hx=>
     have:QmR[k]? =some x:=hx
     exact .inl (List.eq_of_mem_replicate (List.mem_of_getElem? this))
   have him:=Inv.move hwk hw6 hH6 hn6 fun x hx xs=>by
    rcases List.mem_append.1 hx with h|h
    ·simp only[List.mem_cons,List.not_mem_nil,or_false]at h
     rcases h with rfl|rfl|rfl|rfl|rfl<;>simp
    ·rw[List.eq_of_mem_replicate h];simp
   refine Qmr h0 (((((hw.trans hw1).trans hw2).trans hw3).trans hw4).trans hw5|>.trans hw6) him (j:=(Qaf j).d) (e:=0) (p:=0) ?_ (Ext4 (K:=H0) (Nat.le_refl _) _) (by rw[hds])
   obtain⟨K,kk,k1,k2,k3,k4,_⟩:=Qqi H0
   rw[←kk,jd]
   simp only[Qcc,List.cons_append,List.nil_append,List.getD_cons_succ,List.getD_cons_zero,k1,k2,k3]
   rfl
theorem QqA(h0:HeapOK g0 H0 w0){g:Gh}{st:St}{a:Act}{w:World}(hw:WF g0 w0 g w)(hi:Inv g st a w){j:D}{e p:Int}(hr:Qcc st.T st.H [.cell 2 true 5,.cell 3 false 1,.cell 4 false 1]=some [.d j,intD e,intD p])(hx:Ext H0.length H0 st.H)
  (hd:QbC (QaA s)= .tuple [.d j,intD e,intD p]):Leaves Tryd.prog Tryd.f10 a.tmps (DRes g0 w0 H0 s) a.defers .returning w:=by
 rw[hi.defers]
 exact Qmr h0 hw hi hr hx hd
theorem QqB(hS:EnvS Tryd.prog pf X0 XP)(h0:HeapOK g0 H0 w0)(hn:∀b,g0.own b≠ .res){v0:AV}(hb:Qid H0 v0=some s){vals:Array Value}(hv0:1=vals.size)(hv:∀(i:Nat) x v,[v0][i]? =some x→vals[i]? =some v→VR g0 w0 x v∧FOK g0 w0 (.slot i) x v):
  Calls Tryd.prog 10 vals w0 (DRes g0 w0 H0 s):=by
 refine calls_of_wp_defers Tryd.func10 body10 ?_
 rw[nt10,b10_eq]
 have hll0:H0.length≤H0.length:=Nat.le_refl _
 have hll3:∀(a b c:AObj),H0.length≤(H0++ [a,b,c]).length:=fun _ _ _=>by simp
 have hll:∀(a b c d:AObj),H0.length≤(H0++ [a,b,c,d]).length:=fun _ _ _ _=>by simp
 have hi0:Inv g0 ⟨_,H0⟩ { tmps:=vals++Array.replicate (49-vals.size) undef,defers:= [] } w0:=Qd9 (args:= [v0]) h0 hn hv0 hv 49
 refine wp_seq (QfA hS k10_0 rfl hi0 hll0 (v10_0 (fun _=> .tuple [])) ?_ (fun _ h=>h.elim))
 rintro z st1 g1 a1 w1 ⟨rfl,x1,rfl⟩ hw1 hi1 hx1
 show Code.wp Tryd.prog (.seq (.seq p10_1 _) _) _ a1 w1
 refine wp_seq (wp_seq (QfA hS k10_1 rfl hi1 (hll3 _ _ _) (v10_1 (lim:=H0.length) (K:=H0++ [zO,nO 0,nO 0]) (n:=H0.length) x1 hb) ?_ (fun _ h=>h.elim)))
 rintro z st2 g2 a2 w2 ⟨rfl,x2,rfl⟩ hw2 hi2 hx2
 show Code.wp Tryd.prog (.cond (.tmp 9) _ _) _ a2 w2
 refine wp_cond (Inv.boolD' (b:=decide (16384<s.length)) hi2 rfl) ?_
 by_cases hs:16384<s.length
 ·have hds:QaA s= .error (13,16384):=by unfold QaA;rw[if_pos hs]
  rw[decide_eq_true hs,if_pos rfl]
  refine wp_seq (QfA hS k10_2 rfl hi2 (hll3 _ _ _) (v10_2 (fun i=>if i=0 then v0 else if i=9 then boolD (decide (16384<s.length))else x2 i) hll0) ?_ (fun _ h=>h.elim))
  rintro z st3 g3 a3 w3 ⟨rfl,x3,rfl⟩ hw3 hi3 hx3
  refine wp_ret ?_
  refine QqA h0 ((hw1.trans hw2).trans hw3) hi3 (j:=J.zero.d) (e:=13) (p:=16384) ?_ (Ext4 (K:=H0) (Nat.le_refl _) _) (by rw[hds];rfl)
  obtain⟨K,kk,k1,k2,k3,_⟩:=three H0
  rw[←kk]
  simp only[Qcc,List.getD_cons_succ,List.getD_cons_zero,k1,k2,k3]
  rfl
 have hs':s.length≤16384:=by omega
 rw[decide_eq_false hs,if_neg (by simp)]
 refine wp_skip ?_
 show Code.wp Tryd.prog (.seq p10_3 _) _ a2 w2
 refine wp_seq (QfA hS k10_3 rfl hi2 (hll3 _ _ _) (v10_3 (fun i=>if i=9 then boolD (decide (16384<s.length))else x2 i) hb) ?_ (fun _ h=>h.elim))
 rintro z st3 g3 a3 w3 ⟨rfl,x3,rfl⟩ hw3 hi3 hx3
 show Code.wp Tryd.prog (.seq (.seq p10_4 _) _) _ a3 w3
 refine wp_seq (wp_seq (QfA hS k10_4 rfl hi3 (hll _ _ _ _) (v10_4 (lim:=H0.length) x3 hs') ?_ (fun _ h=>h.elim)))
 rintro z st4 g4 a4 w4 ⟨rfl,x4,rfl⟩ hw4 hi4 hx4
 show Code.wp Tryd.prog (.seq p10_5 _) _ a4 w4
 refine wp_seq (QfA hS k10_5 rfl hi4 (hll _ _ _ _) (v10_5 (lim:=H0.length) (K:=H0++ [zO,nO 0,nO 0,rdO s (0:Nat)]) (n:=H0.length) (b:=Qaw s) x4) ?_ (fun _ h=>h.elim))
 rintro z st5 g5 a5 w5 ⟨rfl,x5,rfl⟩ hw5 hi5 hx5
 show Code.wp Tryd.prog (.cond (.tmp 21) _ _) _ a5 w5
 refine wp_cond (Inv.boolD' (b:=decide (Qaw s≥0)) hi5 rfl) ?_
 have hw15:=(((hw1.trans hw2).trans hw3).trans hw4).trans hw5
 by_cases hbr:0≤Qaw s
 ·have hds:QaA s= .error (10,(Qaw s).toNat):=by unfold QaA;rw[if_neg hs,if_pos hbr]
  have hnb:((Qaw s).toNat:Int)=Qaw s:=by omega
  rw[decide_eq_true hbr,if_pos rfl]
  refine wp_seq (QfA hS k10_6 rfl hi5 (hll _ _ _ _) (v10_6 (s:=s) (fun i=>if i=21 then boolD (decide (Qaw s≥0))else x5 i) hll0) ?_ (fun _ h=>h.elim))
  rintro z st6 g6 a6 w6 ⟨rfl,x6,rfl⟩ hw6 hi6 hx6
  refine wp_ret ?_
  refine QqA h0 (hw15.trans hw6) hi6 (j:=J.zero.d) (e:=10) (p:=Qaw s) ?_ (Ext4 (K:=H0) (Nat.le_refl _) _) (by rw[hds];show AV.tuple [_,_,intD ((Qaw s).toNat:Int)]=_;rw[hnb];rfl)
  obtain⟨K,kk,k1,k2,k3,k4,_⟩:=Qqi H0
  rw[←kk]
  simp only[Qcc,List.getD_cons_succ,List.getD_cons_zero,k1,k2,k3]
  rfl
 rw[decide_eq_false hbr,if_neg (by simp)]
 refine wp_skip ?_
 show Code.wp Tryd.prog (.seq Qho restC) _ a5 w5
 rw[r7x_eq]
 refine wp_seq (wp_region_list ?_)
 refine QbV (lim:=H0.length) (E:=X0 0) c7_0 (hS.e 0) hi5 (hll _ _ _ _) (show stepOp _ _ _ _=some ⟨(D5 H0.length fun i=>if i=6 then intD (Qaw s)else if i=21 then boolD (decide (Qaw s≥0))else x5 i).set 24 (.func (.func 23) [.ptr H0.length 0,.ptr (H0.length+1) 0,.ptr (H0.length+2) 0]),_⟩from rfl) ?_
 intro g6 a6 w6 hw6 hi6 hx6
 refine Qor o7_1.2.1 o7_1.1 (f:=23) (cap:=caps g6 H0.length) (Inv.funcD (n:=H0.length) hi6 rfl) ?_
 rw[o7_1.2.2]
 refine @dec_rest g0 w0 H0 s ⟨[dcl (caps g6 H0.length)]⟩ hS h0 (caps g6 H0.length) rfl hs' hbr g6 _ w6 (fun i=>if i=6 then intD (Qaw s)else if i=21 then boolD (decide (Qaw s≥0))else if i=24 then .func (.func 23) [.ptr H0.length 0,.ptr (H0.length+1) 0,.ptr (H0.length+2) 0]else x5 i) (hw15.trans hw6) rfl ?_
 exact @Go.Abs.Inv.mk tabs ⟨[dcl (caps g6 H0.length)]⟩ _ _ _ _ hi6.heap hi6.size hi6.tok hi6.nores (by show _::a6.defers=_;rw[hi6.defers];rfl)
theorem Qlj:FSound Tryd.prog 10 Qh1:=by
 intro lim args H a H' h hlim
 unfold Qh1 at h
 split at h
 ·rename_i v0
  simp only[Option.map_eq_some_iff]at h
  obtain⟨s,hb,h⟩:=h
  simp only[Prod.mk.injEq]at h
  obtain⟨rfl,rfl⟩:=h
  refine⟨Ext.refl _ _,fun vals g w hH hn hv0 hv=> .inl ⟨fn10,(QqB hS0 hH hn hb hv0 hv).mono ?_⟩⟩
  rintro e w' ⟨v,g',rfl,h1,h2,h3⟩
  refine⟨v,g',rfl,h1,h2,h3,FOK.ne ?_⟩
  cases QaA s<;>simp[QbC]
 ·cases h
end
end Go.Proofs.YtmhmjlfajlpabaaDoor
set_option maxRecDepth 1000000
namespace Go.Proofs.YtmhmjlfajlpabaaDoor
open Go Go.Abs
theorem QqT:QaH code Qhi 60 11 0 [] []=some (boolD true,[]):=by kernel_rfl
theorem Qky:∀f F,Qhi f=some F→FSound Tryd.prog f F:=fun f F h=>by
 unfold Qhi at h
 split at h
 ·rename_i hf;subst hf;cases h;exact Qlj
 ·exact QkA f F h
theorem Qmz:FSound Tryd.prog 11 QqU:=
 Qlo (d:= .bool true) QeN Qky QeT (k:=60) rfl QqT
theorem QgI:∀f F,Qaq f=some F→FSound Tryd.prog f F:=fun f F h=>by
 unfold Qaq at h
 split at h
 ·rename_i hf;subst hf;cases h;exact Qmz
 ·exact Qky f F h
end Go.Proofs.YtmhmjlfajlpabaaDoor
namespace Go.Proofs.YtmhmjlfajlpabaaDoor
open Go Go.Abs Go.RowKit
theorem Ql1(w:World):Opens Tryd.prog w 23 fun ds=>∃l:List Tx,ds= [sD l]∧∀s∈l,s.length≤reachBytes:=
 (Qn9 (sz:=1) (f:=D.str) (Q:=fun s:Tx=>s.length≤reachBytes) Tryd.underlying23 (by kernel_rfl) (by decide) (QkG Tryd.underlying9) fun es ⟨l,h,hl⟩ _=>⟨l,hl,by rw[h];rfl⟩).mono
   fun ds ⟨l,h1,_,h3⟩=>⟨l,h1,h3⟩
def IsJ(ds:List D):Prop:=∃j:J,ds= [.int .i64 j.k,.int .i64 j.n,.str j.t,sD j.ks,jsD j.l]
theorem QjO(w:World):∀fuel,Qf9 Tryd.prog w 26 IsJ fuel:=fun fuel=>by
 induction fuel using Nat.strongRecOn with
 |_ fuel ih=>
  have h:=Qhs (P:=Tryd.prog) (w:=w) Tryd.underlying26 (As:= [_,_,_,_,_]) (fuel:=fuel)
   ⟨rfl,fun n _=>QkI Tryd.underlying3 n,by kernel_rfl,fun n _=>QkI Tryd.underlying2 n,by kernel_rfl,fun n _=>QkG Tryd.underlying9 n,by kernel_rfl,fun n _=>Ql1 w n,by kernel_rfl,
     fun n hn=>QeF (sz:=5) (A:=IsJ) Tryd.underlying24 (by kernel_rfl) (by decide) fun m hm=>ih m (by omega),trivial⟩ (by kernel_rfl)
  intro H enc base sp hd cs x hx hw
  obtain⟨ds,h1,h2⟩:=h H enc base sp hd cs x hx hw
  refine⟨ds, ?_,h2⟩
  obtain⟨d1,r1,rfl,⟨k,rfl,_⟩,d2,r2,rfl,⟨n,rfl,_⟩,d3,r3,rfl,⟨t,rfl,_⟩,d4,r4,rfl,⟨ks,rfl,_⟩,d5,r5,rfl,⟨xs,rfl,_,hxs⟩,h6⟩:=h1
  have:r5= []:=h6
  subst this
  obtain⟨l,_,h5⟩:=QjU (Q:=fun _:J=>True) (f:=J.d) (xs:=xs) fun x hx=>by
   obtain⟨es,⟨j,rfl⟩,_,rfl⟩:=hxs x hx
   exact⟨j,trivial,by rw[jd];rfl⟩
  subst h5
  exact⟨.mk k n t ks l,rfl⟩
theorem QiV(w:World):Opens Tryd.prog w 26 IsJ:=QjO w
end Go.Proofs.YtmhmjlfajlpabaaDoor
namespace Go.Proofs.YtmhmjlfajlpabaaDoor
open Go Go.Abs Go.Lib
abbrev QlH(s:Tx):J:= .mk 5 0 [] [s] [.mk 3 0 s [] []]
theorem QmO(s:Tx):goodB 12 (QlH s)=vB s:=by
 show(Qan (QlH s)&&([J.mk 3 0 s [] []].all (goodB 11)))=vB s
 have h1:Qan (QlH s)=vB s:=by
  show(decide (([s]:List Tx).length= [J.mk 3 0 s [] []].length)&&decide ((0:Int)=0)&&decide (([]:Tx)= [])&&Qbr [s])=vB s
  simp[Qbr]
 have h2:goodB 11 (J.mk 3 0 s [] [])=vB s:=by
  show(Qan (J.mk 3 0 s [] [])&&([]:List J).all (goodB 10))=vB s
  show((decide (([]:List Tx).length+([]:List J).length=0)&&decide ((0:Int)=0)&&vB s)&&true)=vB s
  simp
 rw[h1]
 simp only[List.all_cons,List.all_nil,h2,Bool.and_true,Bool.and_self]
theorem Qg1(s:Tx):Qaf (QlH s)=QlH s:=by
 have hk:Qar [s]= [0]:=rfl
 rw[Qm8 rfl,hk]
 have:Qaf (.mk 3 0 s [] [])= .mk 3 0 s [] []:=by rw[Qhp (by decide)];rfl
 simp only[List.map_cons,List.map_nil,this]
 rfl
theorem two_len(s:Tx)(h:s.length≤1000):(QaT (QlH s)).length≤16384:=by
 have hq:=Qep s
 have e:QaT (.mk 3 0 s [] [])=QaK s:=by rw[Qcw];rfl
 rw[Qcw]
 show(123::(commas (List.zipWith QbU [s] [QaT (.mk 3 0 s [] [])])++ [125])).length≤16384
 rw[e]
 show(123::(QbU s (QaK s)++ [125])).length≤16384
 simp[QbU];omega
theorem two_wt(s:Tx)(h:s.length≤1000):wt (QlH s)≤100000000000:=by
 rw[QdQ]
 show 1+0+([s].map fun k=>k.length+1).sum+wts [J.mk 3 0 s [] []]≤_
 rw[Qcj,QfE]
 show 1+0+(s.length+1+0)+(1+s.length+0)≤_
 omega
theorem Qo1(lim:Nat)(H:Qaa)(s:Tx):Ev (QaH code Qaq) 6 lim [.d (.str s)] H (boolD true) H:=by
 refine Fn.ev ?_
 refine Qa2 (pn rfl) rfl (show code 6=some c6 from rfl) rfl ?_;simp only[List.length_cons,List.length_nil,List.cons_append,List.nil_append,simprocAttr]
 by_cases hl:1000<s.length
 ·have f1:((s.length:Int)>1000)=True:=eq_true (by omega)
  refine w_r f1 ?_
  exact Qad (vs:= [boolD true]) rfl rfl ⟨rfl,rfl⟩
 have f1:((s.length:Int)>1000)=False:=eq_false (by omega)
 have hw:=two_wt s (by omega)
 refine w_r f1 ?_
 have hjd:(QlH s).d=D.agg [.int .i64 5,.int .i64 0,.str [],.slice [.str s],.slice [.agg [.int .i64 3,.int .i64 0,.str s,.slice [],.slice []]]]:=by
  rw[jd]
  show D.agg [.int .i64 5,.int .i64 0,.str [],.slice [.str s],.slice [J.d (.mk 3 0 s [] [])]]=_
  rw[jd];rfl
 obtain⟨K,hK⟩:∃K,H++ [AObj.cells [.d (.int .i64 5),.d (.int .i64 0),.d (.str []),.d (.slice [.str s]),.d (.slice [.agg [.int .i64 3,.int .i64 0,.str s,.slice [],.slice []]])]]=K:=⟨_,rfl⟩
 have gK:K[H.length]? =some (.cells [.d (.int .i64 5),.d (.int .i64 0),.d (.str []),.d (.slice [.str s]),.d (.slice [.agg [.int .i64 3,.int .i64 0,.str s,.slice [],.slice []]])]):=by rw[←hK];exact Qa3 _ _
 rw[hK]
 have a1:=Qfz H.length K (QlH s) hw
 obtain⟨v,H2,hbad,⟨r,rfl,hr⟩,e'⟩:=Qk8 (QqQ H.length K s (by omega))
 rw[e']at hbad
 have a8:=QcC H.length K
 rw[hjd]at a1
 cases hv:vB s with
 |false=>
  have he:QbB (QlH s)= .error 1:=by unfold QbB;rw[QmO,hv];rfl
  rw[hv]at hr
  have f2:(r≥0)=True:=eq_true (by have:=of_decide_eq_false hr;omega)
  rw[he]at a1
  simp only[Qqw]at a1
  refine w_1 a1 gK ?_
  refine Qlz ?_
  refine w_1 hbad f2 ?_
  refine w_r trivial ?_
  refine w_1 a8 trivial ?_
  refine w_r trivial ?_
  exact Qad (vs:= [boolD true]) rfl rfl ⟨rfl,rfl⟩
 |true=>
  have hg:goodB 12 (QlH s)=true:=by rw[QmO,hv]
  have hlen:=two_len s (by omega)
  have he:QbB (QlH s)= .ok (QaT (QlH s)):=by
   unfold QbB
   rw[if_pos hg,Qg1,if_neg (by omega)]
  have hd:=QdI hg (by rw[Qg1];omega)
  rw[Qg1]at hd
  rw[hv]at hr
  have f2:(r≥0)=False:=eq_false (by have:=of_decide_eq_true hr;omega)
  rw[he]at a1
  simp only[Qqw]at a1
  have a2:=QcU H.length K (QaT (QlH s))
  rw[hd]at a2
  simp only[QbC]at a2
  rw[hjd]at a2
  generalize QaT (QlH s)=e at*
  obtain⟨M,kk,g1,g2,s1,s2⟩:∃M:AObj→Qaa,(∀o,K++ [o]=M o)∧(∀o,(M o)[H.length]? =some (.cells [.d (.int .i64 5),.d (.int .i64 0),.d (.str []),.d (.slice [.str s]),.d (.slice [.agg [.int .i64 3,.int .i64 0,.str s,.slice [],.slice []]])]))∧(∀o,(M o)[H.length+1]? =some o)∧K.length=H.length+1∧(∀o o',(M o).set (H.length+1) o'=M o'):=
   ⟨fun o=>K++ [o],fun _=>rfl,fun o=>by rw[←hK];simp,fun o=>by rw[←hK];simp,by rw[←hK];simp,fun o o'=>by rw[←hK];simp⟩
  have hll:H.length≤H.length+1:=by omega
  have a9:=QcC H.length (M (.cells [.d (.int .i64 5),.d (.int .i64 0),.d (.str []),.d (.slice [.str s]),.d (.slice [.agg [.int .i64 3,.int .i64 0,.str s,.slice [],.slice []]])]))
  refine w_1 a1 gK ?_
  refine Qlz ?_
  refine w_1 hbad f2 ?_
  refine w_r trivial ?_
  refine w_1 a2 (j_ kk (j_ g2 (j_ s1 (j_ s2 hll)))) ?_
  refine Qlz ?_
  refine w_1 a9 (j_ g1 g2) ?_
  refine w_r trivial ?_
  exact Qad (vs:= [boolD true]) rfl rfl ⟨rfl,rfl⟩
def At(s:Tx)(p:Nat):Prop:=p≤s.length∧U8 (s.drop p)
def Er(s:Tx)(e:Nat×Nat):Prop:=e.2≤s.length∧1≤e.1
theorem er{s:Tx}{c p:Nat}(h:p≤s.length)(hc:Nat.ble 1 c=true:=by rfl):Er s (c,p):=⟨h,Nat.le_of_ble_eq_true hc⟩
section
variable {s:Tx}
theorem get_drop{p:Nat}{c:UInt8}(h:s[p]? =some c):s.drop p=c::s.drop (p+1):=by
 obtain⟨hp,e⟩:=List.getElem?_eq_some_iff.1 h
 rw[←e];exact List.drop_eq_getElem_cons hp
theorem At.next{p:Nat}{c:UInt8}(h:At s p)(hc:s[p]? =some c)(hs:c.toNat<128):At s (p+1):=by
 refine⟨(List.getElem?_eq_some_iff.1 hc).1, ?_⟩
 have:=h.2
 rw[get_drop hc]at this
 exact this.tail hs
theorem At.run:∀(x:Tx) {p:Nat} {r:Tx},At s p→s.drop p=x++r→(∀c∈x,c.toNat<128)→At s (p+x.length)
 | [],p,r,h,_,_=>h
 |c::x,p,r,h,hd,hx=>by
  have h1:=h.next (QbW (r:=x++r) hd) (hx c (by simp))
  have:=At.run x h1 (QaR (r:=x++r) hd) fun d hd=>hx d (by simp[hd])
  rw[List.length_cons]
  rwa [show p+(x.length+1)=p+1+x.length by omega]
theorem Qmx{c:UInt8}(h:Qaj c=true):c.toNat<128:=by
 simp only[Qaj,Bool.or_eq_true,beq_iff_eq]at h
 rcases h with((rfl|rfl)|rfl)|rfl<;>decide
theorem At.blanks{p:Nat}(h:At s p):At s (Qac s p):=by
 unfold Qac
 exact h.run ((s.drop p).takeWhile Qaj) (List.takeWhile_append_dropWhile).symm fun c hc=>Qmx (by
  have:=List.all_takeWhile (p:=Qaj) (l:=s.drop p)
  exact List.all_eq_true.1 this c hc)
theorem At.want{p:Nat}{c:UInt8}(hc:c.toNat<128)(h:At s p):match QbP s c p with
  |.ok q=>At s q
  |.error e=>Er s e:=by
 unfold QbP
 by_cases he:s[p]? =some c
 ·rw[if_pos he];exact h.next he hc
 ·rw[if_neg he];exact er h.1
theorem At.word:∀(w:Tx) {p:Nat},(∀c∈w,c.toNat<128)→At s p→match QbF s w p with
  |.ok q=>At s q
  |.error e=>Er s e
 | [],_,_,h=>h
 |c::w,p,hw,h=>by
  unfold QbF
  have h1:=h.want (hw c (by simp))
  cases e:QbP s c p with
  |error e'=>rw[e]at h1;exact h1
  |ok q=>
   rw[e]at h1
   exact At.word w (fun d hd=>hw d (by simp[hd])) h1
theorem Qli{c:UInt8}(h:QaE c=true):c.toNat<128:=by
 simp only[QaE,Bool.and_eq_true,decide_eq_true_eq]at h;omega
theorem Qhx{p:Nat}(h:nx s p≠0):s[p]? =some (nx s p):=by
 unfold nx at h⊢
 cases e:s[p]? with
 |none=>rw[e]at h;exact absurd rfl h
 |some c=>rfl
theorem Qmo{p:Nat}(h:QaE (nx s p)=true):s[p]? =some (nx s p):=Qhx fun e=>by rw[e]at h;cases h
theorem QeR(first:Nat):∀(f n p:Nat),At s p→match Qa0 s first f n p with
  |.ok (_,q)=>At s q
  |.error e=>Er s e
 |0,_,_,h=>er h.1
 |f+1,n,p,h=>by
  unfold Qa0
  by_cases hd:QaE (nx s p)=true
  ·rw[if_pos hd]
   split
   ·rename_i heq;split at heq
    ·cases heq
    ·have:=QeR first f (if n≤9007199254740991 then 10*n+((nx s p).toNat-48)else n) (p+1) (h.next (Qmo hd) (Qli hd))
     rw[heq]at this;exact this
   ·rename_i heq;split at heq
    ·injection heq with heq;rw[←heq];exact er h.1
    ·have:=QeR first f (if n≤9007199254740991 then 10*n+((nx s p).toNat-48)else n) (p+1) (h.next (Qmo hd) (Qli hd))
     rw[heq]at this;exact this
  ·rw[if_neg hd];exact h
theorem At.number{p:Nat}(h:At s p):match QaZ s p with
  |.ok (j,q)=>(∃n:Int,j= .mk 2 n [] [] []∧-9007199254740991≤n∧n≤9007199254740991)∧At s q
  |.error e=>Er s e:=by
 unfold QaZ
 have hf:At s (if nx s p=45 then p+1 else p):=by
  split
  ·rename_i h45
   have:=Qhx (s:=s) (p:=p) (by rw[h45];decide)
   rw[h45]at this
   exact h.next this (by decide)
  ·exact h
 have hsg:(p<if nx s p=45 then p+1 else p)∨¬(p<if nx s p=45 then p+1 else p):=Classical.em _
 generalize(if nx s p=45 then p+1 else p)=first at hf hsg⊢
 simp only
 by_cases hd:QaE (nx s first)=true
 ·rw[if_pos hd]
  have h1:=QeR first (s.length+1) 0 first hf
  cases e:Qa0 s first (s.length+1) 0 first with
  |error e'=>rw[e]at h1;exact h1
  |ok nq=>
   obtain⟨n,q⟩:=nq
   rw[e]at h1
   simp only
   by_cases hb:9007199254740991<n∨nx s q=46∨nx s q=101∨nx s q=69
   ·rw[if_pos hb];exact er h.1
   ·rw[if_neg hb]
    have hn:n≤9007199254740991:=by
     have:¬9007199254740991<n:=fun h=>hb (.inl h)
     omega
    refine⟨⟨_,rfl, ?_, ?_⟩,h1⟩<;>split<;>omega
 ·rw[if_neg hd];exact er hf.1
theorem hexV_lt{c:UInt8}{v:Nat}(h:Qqd c=some v):v<16∧c.toNat<128:=by
 unfold Qqd at h
 split at h
 ·injection h with h;omega
 split at h
 ·injection h with h;omega
 split at h
 ·injection h with h;omega
 ·cases h
theorem Qh5:∀(k n p:Nat),At s p→match Qbo s k n p with
  |.ok (m,q)=>At s q∧m<(n+1)*16^k
  |.error e=>Er s e
 |0,n,p,h=>⟨h,by omega⟩
 |k+1,n,p,h=>by
  unfold Qbo
  cases hc:s[p]? with
  |none=>exact er h.1
  |some c=>
   simp only
   cases hv:Qqd c with
   |none=>exact er h.1
   |some v=>
    obtain⟨h1,h2⟩:=hexV_lt hv
    have:=Qh5 k (16*n+v) (p+1) (h.next hc h2)
    simp only
    cases e:Qbo s k (16*n+v) (p+1)with
    |error e'=>rw[e]at this;exact this
    |ok mq=>
     obtain⟨m,q⟩:=mq
     rw[e]at this
     refine⟨this.1,Nat.lt_of_lt_of_le this.2 ?_⟩
     rw[Nat.pow_succ,Nat.mul_comm (16^k) 16,←Nat.mul_assoc]
     exact Nat.mul_le_mul_right _ (by omega)
def Rn(n:Nat):Prop:=n<55296∨(57343<n∧n≤1114111)
theorem At.esc{p:Nat}(h:At s p):match QdR s p with
  |.ok (n,q)=>At s q∧Rn n
  |.error e=>Er s e:=by
 unfold QdR
 cases hc:s[p]? with
 |none=>exact er h.1
 |some c=>
  simp only
  have small:∀ {d:UInt8},c=d→d.toNat<128→At s (p+1):=fun e hd=>h.next hc (by rw[e];exact hd)
  by_cases h1:c=34∨c=92∨c=47
  ·rw[if_pos h1]
   have hc':c.toNat<128:=by rcases h1 with rfl|rfl|rfl<;>decide
   exact⟨h.next hc hc',.inl (by omega)⟩
  rw[if_neg h1]
  by_cases h2:c=98
  ·rw[if_pos h2];exact⟨small h2 (by decide),.inl (by decide)⟩
  rw[if_neg h2]
  by_cases h3:c=102
  ·rw[if_pos h3];exact⟨small h3 (by decide),.inl (by decide)⟩
  rw[if_neg h3]
  by_cases h4:c=110
  ·rw[if_pos h4];exact⟨small h4 (by decide),.inl (by decide)⟩
  rw[if_neg h4]
  by_cases h5:c=114
  ·rw[if_pos h5];exact⟨small h5 (by decide),.inl (by decide)⟩
  rw[if_neg h5]
  by_cases h6:c=116
  ·rw[if_pos h6];exact⟨small h6 (by decide),.inl (by decide)⟩
  rw[if_neg h6]
  by_cases h7:c=117
  ·rw[if_pos h7]
   have g1:=Qh5 4 0 (p+1) (small h7 (by decide))
   cases e:Qbo s 4 0 (p+1)with
   |error e'=>rw[e]at g1;exact g1
   |ok nq=>
    obtain⟨n,q⟩:=nq
    rw[e]at g1
    simp only at g1⊢
    by_cases k1:n<55296∨57343<n
    ·rw[if_pos k1]
     refine⟨g1.1, ?_⟩
     unfold Rn;omega
    rw[if_neg k1]
    by_cases k2:56320≤n∨¬(s[q]? =some 92∧s[q+1]? =some 117)
    ·rw[if_pos k2]
     have:=h.1
     refine er (p:=p-1) ?_
     omega
    rw[if_neg k2]
    have k3:s[q]? =some 92∧s[q+1]? =some 117:=Decidable.not_not.1 fun h=>k2 (.inr h)
    have g2:=Qh5 4 0 (q+2) ((g1.1.next k3.1 (by decide)).next k3.2 (by decide))
    cases e2:Qbo s 4 0 (q+2)with
    |error e'=>rw[e2]at g2;exact g2
    |ok mz=>
     obtain⟨m,z⟩:=mz
     rw[e2]at g2
     simp only at g2⊢
     by_cases k4:m<56320∨57343<m
     ·rw[if_pos k4]
      have:=h.1
      refine er (p:=p-1) ?_
      omega
     ·rw[if_neg k4]
      refine⟨g2.1,.inr ?_⟩
      omega
  ·rw[if_neg h7];exact er h.1
theorem Qbw{n:Nat}(h:n<256):(UInt8.ofNat n).toNat=n:=by rw[UInt8.toNat_ofNat'];omega
theorem rune_let{n:Nat}(h:Rn n):Let (Qco n):=by
 unfold Rn at h
 unfold Qco
 split
 ·rename_i h1
  exact QpW (by rw[Qbw (by omega)];exact h1)
 split
 ·have e:dc [UInt8.ofNat (192+n/64),UInt8.ofNat (128+n % 64)]=(n,2):=by
   show decodeN 2 (UInt8.ofNat (192+n/64)).toNat (UInt8.ofNat (128+n % 64)).toNat 0 0=_
   rw[Qbw (by omega),Qbw (by omega)]
   unfold decodeN
   rw[if_neg (by omega),if_pos (by omega),if_pos (by omega)]
   congr 1;omega
  exact⟨by rw[e];rfl,by rw[e];intro h;injection h with _ h;omega⟩
 split
 ·have e:dc [UInt8.ofNat (224+n/4096),UInt8.ofNat (128+n/64 % 64),UInt8.ofNat (128+n % 64)]=(n,3):=by
   show decodeN 3 (UInt8.ofNat (224+n/4096)).toNat (UInt8.ofNat (128+n/64 % 64)).toNat (UInt8.ofNat (128+n % 64)).toNat 0=_
   rw[Qbw (by omega),Qbw (by omega),Qbw (by omega)]
   unfold decodeN
   rw[if_neg (by omega),if_neg (by omega),if_pos (by omega)]
   have hv:(224+n/4096)% 16*4096+(128+n/64 % 64)% 64*64+(128+n % 64)% 64=n:=by omega
   rw[hv,if_pos (by omega)]
  exact⟨by rw[e];rfl,by rw[e];intro h;injection h with _ h;omega⟩
 ·have e:dc [UInt8.ofNat (240+n/262144),UInt8.ofNat (128+n/4096 % 64),UInt8.ofNat (128+n/64 % 64),UInt8.ofNat (128+n % 64)]=(n,4):=by
   show decodeN 4 (UInt8.ofNat (240+n/262144)).toNat (UInt8.ofNat (128+n/4096 % 64)).toNat (UInt8.ofNat (128+n/64 % 64)).toNat (UInt8.ofNat (128+n % 64)).toNat=_
   rw[Qbw (by omega),Qbw (by omega),Qbw (by omega),Qbw (by omega)]
   unfold decodeN
   rw[if_neg (by omega),if_neg (by omega),if_neg (by omega),if_pos (by omega)]
   have hv:(240+n/262144)% 8*262144+(128+n/4096 % 64)% 64*4096+(128+n/64 % 64)% 64*64+(128+n % 64)% 64=n:=by omega
   rw[hv,if_pos (by omega)]
  exact⟨by rw[e];rfl,by rw[e];intro h;injection h with _ h;omega⟩
theorem rune_u8{n:Nat}(h:Rn n):U8 (Qco n):=by
 have:=U8.cons (rune_let h) U8.nil
 rwa [List.append_nil]at this
theorem Qh8{f p:Nat}{acc:Tx}{c:UInt8}(hc:s[p]? =some c)(h1:¬c.toNat<32)(h2:c≠34)(h3:c≠92):QaW s (f+1) acc p=QaW s f (acc++ [c]) (p+1):=by
 conv=>lhs;unfold QaW
 rw[hc]
 simp only
 rw[if_neg h1,if_neg h2,if_neg h3]
theorem Qlq:∀(x:Tx) (f:Nat) (acc:Tx) (p:Nat) (r:Tx),(∀c∈x,128≤c.toNat)→s.drop p=x++r→
  QaW s f acc p=if f<x.length then .error (11,p+f)else QaW s (f-x.length) (acc++x) (p+x.length)
 | [],f,acc,p,r,_,_=>by simp
 |c::x,0,acc,p,r,_,_=>by
  rw[if_pos (by simp)];unfold QaW;rfl
 |c::x,f+1,acc,p,r,hx,hd=>by
  have hb:=hx c (by simp)
  have hne:∀d:UInt8,d.toNat<128→c≠d:=fun d hd e=>by rw[e]at hb;omega
  rw[Qh8 (QbW (r:=x++r) hd) (by omega) (hne _ (by decide)) (hne _ (by decide)),Qlq x f (acc++ [c]) (p+1) r (fun d hd=>hx d (by simp[hd])) (QaR (r:=x++r) hd)]
  have e1:(f<x.length)=(f+1<(c::x).length):=by simp
  by_cases h:f<x.length
  ·rw[if_pos h,if_pos (by rw[←e1];exact h)]
   congr 2;omega
  ·rw[if_neg h,if_neg (by rw[←e1];exact h)]
   have e2:f+1-(c::x).length=f-x.length:=by simp
   rw[e2,List.append_assoc,List.length_cons]
   congr 1;omega
theorem QeA:∀(n f:Nat),f≤n→∀(acc:Tx) (p:Nat),At s p→U8 acc→match QaW s f acc p with
  |.ok (t,q)=>U8 t∧At s q
  |.error e=>Er s e
 |_,0,_,acc,p,h,_=>er h.1
 |0,f+1,hf,_,_,_,_=>by omega
 |n+1,f+1,hf,acc,p,h,ha=>by
  by_cases hne:s.drop p= []
  ·unfold QaW
   rw[QqV hne];exact er h.1
  ·obtain⟨hd,hr⟩:=(U8.step hne).1 h.2
   have hx:=Qnh hne hd
   generalize hx':(s.drop p).take (dc (s.drop p)).2=x at hx
   have hsp:s.drop p=x++(s.drop p).drop (dc (s.drop p)).2:=by rw[←hx',List.take_append_drop]
   generalize(s.drop p).drop (dc (s.drop p)).2=r at hsp hr
   rcases QhA hx with⟨c,rfl,hc⟩|⟨h2,hbig⟩
   ·have hg:s[p]? =some c:=QbW (r:=r) hsp
    have hat:=h.next hg hc
    by_cases k1:c.toNat<32
    ·unfold QaW
     rw[hg];simp only;rw[if_pos k1];exact er h.1
    by_cases k2:c=34
    ·unfold QaW
     rw[hg];simp only;rw[if_neg k1,if_pos k2];exact⟨ha,hat⟩
    by_cases k3:c=92
    ·unfold QaW
     rw[hg];simp only;rw[if_neg k1,if_neg k2,if_pos k3]
     have he:=hat.esc
     cases e:QdR s (p+1)with
     |error e'=>rw[e]at he;exact he
     |ok mq=>
      obtain⟨m,q⟩:=mq
      rw[e]at he
      exact QeA n f (by omega) (acc++Qco m) q he.1 (ha.app (rune_u8 he.2))
    ·rw[Qh8 hg k1 k2 k3]
     exact QeA n f (by omega) (acc++ [c]) (p+1) hat (ha.app (U8.one hc U8.nil))
   ·rw[Qlq x (f+1) acc p r hbig hsp]
    have hlen:=congrArg List.length hsp
    rw[List.length_drop,List.length_append]at hlen
    have hp:=h.1
    by_cases hfx:f+1<x.length
    ·rw[if_pos hfx]
     refine er (p:=p+(f+1)) ?_
     omega
    ·rw[if_neg hfx]
     have hat:At s (p+x.length):=⟨by omega,by rw[Qei hsp];exact hr⟩
     exact QeA n (f+1-x.length) (by omega) (acc++x) (p+x.length) hat (ha.app (by have:=U8.cons hx U8.nil;rwa [List.append_nil]at this))
theorem At.text{p:Nat}(h:At s p):match Qbq s p with
  |.ok (t,q)=>U8 t∧At s q
  |.error e=>Er s e:=by
 unfold Qbq
 have h1:=h.want (c:=34) (by decide)
 cases e:QbP s 34 p with
 |error e'=>rw[e]at h1;exact h1
 |ok q=>
  rw[e]at h1
  exact QeA _ _ (Nat.le_refl _) [] q h1 U8.nil
end
end Go.Proofs.YtmhmjlfajlpabaaDoor
namespace Go.Proofs.YtmhmjlfajlpabaaDoor
open Go Go.Abs Go.Lib
section
variable {s:Tx}
theorem At.more{p:Nat}{c:UInt8}(first:Bool)(hc:c.toNat<128)(h:At s p):match QbI s first c p with
  |.ok (_,q)=>At s q
  |.error e=>Er s e:=by
 unfold QbI
 have hb:=h.blanks
 simp only
 by_cases h1:s[Qac s p]? =some c
 ·rw[if_pos h1];exact hb.next h1 hc
 rw[if_neg h1]
 cases first with
 |true=>exact hb
 |false=>
  rw[if_neg (by simp)]
  have hw:=hb.want (c:=44) (by decide)
  cases e:QbP s 44 (Qac s p)with
  |error e'=>rw[e]at hw;exact hw
  |ok q=>rw[e]at hw;exact At.blanks hw
theorem Qou(g:Nat):goodB (g+1) (.mk 0 0 [] [] [])=true:=rfl
theorem Qja(g:Nat):goodB (g+1) (.mk 1 1 [] [] [])=true∧goodB (g+1) (.mk 1 0 [] [] [])=true:=⟨rfl,rfl⟩
theorem Qot(g:Nat){n:Int}(h1: -9007199254740991≤n)(h2:n≤9007199254740991):goodB (g+1) (.mk 2 n [] [] [])=true:=by
 show((true&&decide (([]:Tx)= [])&&decide (-9007199254740991≤n)&&decide (n≤9007199254740991))&&true)=true
 simp[h1,h2]
theorem Qos(g:Nat){t:Tx}(h:U8 t):goodB (g+1) (.mk 3 0 t [] [])=true:=by
 show((true&&decide ((0:Int)=0)&&vB t)&&true)=true
 rw[(QmN t).2 h];rfl
theorem Qqg(g:Nat){l:List J}(h:∀y∈l,goodB g y=true):goodB (g+1) (.mk 4 0 [] [] l)=true:=by
 show(true&&l.all (goodB g))=true
 rw[List.all_eq_true.2 h];rfl
theorem good_map(g:Nat){ks:List Tx}{l:List J}(hl:ks.length=l.length)(hd:ks.Nodup)(hv:∀k∈ks,U8 k)(h:∀y∈l,goodB g y=true):goodB (g+1) (.mk 5 0 [] ks l)=true:=by
 show(Qan (.mk 5 0 [] ks l)&&l.all (goodB g))=true
 rw[QiI hl hd fun k hk=>(QmN k).2 (hv k hk),List.all_eq_true.2 h];rfl
theorem Qem:∀f:Nat,
  (∀deep p,At s p→match QaB s f deep p with
    |.ok (j,q)=>deep≤12∧goodB (13-deep) j=true∧At s q
    |.error e=>Er s e)∧
  (∀deep first acc p,At s p→(∀y∈acc,goodB (13-(deep+1)) y=true)→match Qbs s f deep first acc p with
    |.ok (l,q)=>(∀y∈l,goodB (13-(deep+1)) y=true)∧At s q
    |.error e=>Er s e)∧
  (∀deep first ks acc p,At s p→(∀y∈acc,goodB (13-(deep+1)) y=true)→ks.length=acc.length→ks.Nodup→(∀k∈ks,U8 k)→match QaN s f deep first ks acc p with
    |.ok (k,l,q)=>k.length=l.length∧k.Nodup∧(∀x∈k,U8 x)∧(∀y∈l,goodB (13-(deep+1)) y=true)∧At s q
    |.error e=>Er s e)
 |0=>by
  refine⟨fun _ _ h=> ?_,fun _ _ _ _ h _=> ?_,fun _ _ _ _ _ h _ _ _ _=> ?_⟩
  ·unfold QaB;exact er h.1
  ·unfold Qbs;exact er h.1
  ·unfold QaN;exact er h.1
 |f+1=>by
  obtain⟨iv,il,ik⟩:=Qem f
  refine⟨fun deep p h=> ?_,fun deep first acc p h ha=> ?_,fun deep first ks acc p h ha hlen hnd hu=> ?_⟩
  ·unfold QaB
   by_cases hd:12<deep∧Qcv (nx s p)
   ·rw[if_pos hd];exact er h.1
   rw[if_neg hd]
   have hdeep:Qcv (nx s p)=true→deep≤12∧∃g,13-deep=g+1∧13-(deep+1)=g:=fun hb=>by
    have:¬12<deep:=fun h=>hd ⟨h,hb⟩
    exact⟨by omega,12-deep,by omega,by omega⟩
   by_cases c1:nx s p=91
   ·rw[if_pos c1]
    obtain⟨h12,g,hg,hg'⟩:=hdeep (by rw[c1];rfl)
    have hget:s[p]? =some 91:=by rw[←c1];exact Qhx (by rw[c1];decide)
    have:=il deep true [] (p+1) (h.next hget (by decide)) (by simp)
    cases e:Qbs s f deep true [] (p+1)with
    |error e'=>rw[e]at this;exact this
    |ok lq=>
     obtain⟨l,q⟩:=lq
     rw[e,hg']at this
     refine⟨h12, ?_,this.2⟩
     rw[hg];exact Qqg g this.1
   rw[if_neg c1]
   by_cases c2:nx s p=123
   ·rw[if_pos c2]
    obtain⟨h12,g,hg,hg'⟩:=hdeep (by rw[c2];rfl)
    have hget:s[p]? =some 123:=by rw[←c2];exact Qhx (by rw[c2];decide)
    have:=ik deep true [] [] (p+1) (h.next hget (by decide)) (by simp) rfl List.nodup_nil (by simp)
    cases e:QaN s f deep true [] [] (p+1)with
    |error e'=>rw[e]at this;exact this
    |ok lq=>
     obtain⟨k,l,q⟩:=lq
     rw[e,hg']at this
     obtain⟨r1,r2,r3,r4,r5⟩:=this
     refine⟨h12, ?_,r5⟩
     rw[hg];exact good_map g r1 r2 r3 r4
   rw[if_neg c2]
   by_cases c3:nx s p=34
   ·rw[if_pos c3]
    obtain⟨h12,g,hg,hg'⟩:=hdeep (by rw[c3];rfl)
    have:=h.text
    cases e:Qbq s p with
    |error e'=>rw[e]at this;exact this
    |ok tq=>
     obtain⟨t,q⟩:=tq
     rw[e]at this
     refine⟨h12, ?_,this.2⟩
     rw[hg];exact Qos g this.1
   rw[if_neg c3]
   by_cases c4:nx s p=110
   ·rw[if_pos c4]
    obtain⟨h12,g,hg,hg'⟩:=hdeep (by rw[c4];rfl)
    have:=h.word [110,117,108,108] (by decide)
    cases e:QbF s [110,117,108,108] p with
    |error e'=>rw[e]at this;exact this
    |ok q=>
     rw[e]at this
     exact⟨h12,by rw[hg];exact Qou g,this⟩
   rw[if_neg c4]
   by_cases c5:nx s p=116
   ·rw[if_pos c5]
    obtain⟨h12,g,hg,hg'⟩:=hdeep (by rw[c5];rfl)
    have:=h.word [116,114,117,101] (by decide)
    cases e:QbF s [116,114,117,101] p with
    |error e'=>rw[e]at this;exact this
    |ok q=>
     rw[e]at this
     exact⟨h12,by rw[hg];exact(Qja g).1,this⟩
   rw[if_neg c5]
   by_cases c6:nx s p=102
   ·rw[if_pos c6]
    obtain⟨h12,g,hg,hg'⟩:=hdeep (by rw[c6];rfl)
    have:=h.word [102,97,108,115,101] (by decide)
    cases e:QbF s [102,97,108,115,101] p with
    |error e'=>rw[e]at this;exact this
    |ok q=>
     rw[e]at this
     exact⟨h12,by rw[hg];exact(Qja g).2,this⟩
   rw[if_neg c6]
   have hnum:=h.number
   cases e:QaZ s p with
   |error e'=>rw[e]at hnum;exact hnum
   |ok jq=>
    obtain⟨j,q⟩:=jq
    rw[e]at hnum
    obtain⟨⟨n,rfl,h1,h2⟩,h3⟩:=hnum
    have hb:Qcv (nx s p)=true:=by
     by_cases h45:nx s p=45
     ·rw[h45];rfl
     ·by_cases hdig:QaE (nx s p)=true
      ·unfold Qcv;rw[hdig];rfl
      ·exfalso
       unfold QaZ at e
       simp only[h45,if_false,hdig]at e
       cases e
    obtain⟨h12,g,hg,hg'⟩:=hdeep hb
    exact⟨h12,by rw[hg];exact Qot g h1 h2,h3⟩
  ·unfold Qbs
   have hm:=h.more first (c:=93) (by decide)
   cases e:QbI s first 93 p with
   |error e'=>rw[e]at hm;exact hm
   |ok bq=>
    obtain⟨b,q⟩:=bq
    rw[e]at hm
    cases b with
    |false=>exact⟨ha,hm⟩
    |true=>
     simp only
     have hv:=iv (deep+1) q hm
     cases e2:QaB s f (deep+1) q with
     |error e'=>rw[e2]at hv;exact hv
     |ok jz=>
      obtain⟨j,z⟩:=jz
      rw[e2]at hv
      refine il deep false (acc++ [j]) z hv.2.2 fun y hy=> ?_
      rcases List.mem_append.1 hy with hy|hy
      ·exact ha y hy
      ·rw[List.mem_singleton.1 hy];exact hv.2.1
  ·unfold QaN
   have hm:=h.more first (c:=125) (by decide)
   cases e:QbI s first 125 p with
   |error e'=>rw[e]at hm;exact hm
   |ok bq=>
    obtain⟨b,q⟩:=bq
    rw[e]at hm
    cases b with
    |false=>exact⟨hlen,hnd,hu,ha,hm⟩
    |true=>
     simp only
     have ht:=At.text hm
     cases e2:Qbq s q with
     |error e'=>rw[e2]at ht;exact ht
     |ok kz=>
      obtain⟨k,z⟩:=kz
      rw[e2]at ht
      simp only
      by_cases hk:ks.contains k=true
      ·rw[if_pos hk];exact er (show At s q from hm).1
      rw[if_neg hk]
      have hw:=(At.blanks ht.2).want (c:=58) (by decide)
      cases e3:QbP s 58 (Qac s z)with
      |error e'=>rw[e3]at hw;exact hw
      |ok r=>
       rw[e3]at hw
       simp only
       have hv:=iv (deep+1) (Qac s r) (At.blanks hw)
       cases e4:QaB s f (deep+1) (Qac s r)with
       |error e'=>rw[e4]at hv;exact hv
       |ok jx=>
        obtain⟨j,x⟩:=jx
        rw[e4]at hv
        refine ik deep false (ks++ [k]) (acc++ [j]) x hv.2.2 (fun y hy=> ?_) (by simp[hlen]) ?_ (fun y hy=> ?_)
        ·rcases List.mem_append.1 hy with hy|hy
         ·exact ha y hy
         ·rw[List.mem_singleton.1 hy];exact hv.2.1
        ·rw[List.nodup_append]
         refine⟨hnd,by simp,fun a ha b hb=> ?_⟩
         rw[List.mem_singleton.1 hb]
         rintro rfl
         exact hk (List.contains_iff_mem.2 ha)
        ·rcases List.mem_append.1 hy with hy|hy
         ·exact hu y hy
         ·rw[List.mem_singleton.1 hy];exact ht.1
theorem QmA(h:U8 s):At s 0:=⟨Nat.zero_le _,by rw[List.drop_zero];exact h⟩
theorem Qh0{j:J}(h:QaA s= .ok j):goodB 12 j=true∧Qaf j=j∧wt j≤16*s.length+8:=by
 unfold QaA at h
 split at h
 ·cases h
 split at h
 ·cases h
 rename_i hl hb
 have hu:U8 s:=by
  have h3:=(Qb3 (s.length+1) s 0 (by omega)).2.1
  have:Qaw s= -1:=by unfold Qaw at hb⊢;omega
  exact(Qci s).1 this
 have hv:=(Qem (s:=s) (2*s.length+3)).1 1 (Qac s 0) (QmA hu).blanks
 cases e:QaB s (2*s.length+3) 1 (Qac s 0)with
 |error e'=>rw[e]at h;cases h
 |ok jp=>
  obtain⟨j',p⟩:=jp
  rw[e]at h hv
  simp only at h
  split at h
  ·cases h
  ·injection h with h
   subst h
   have hg:goodB 12 j'=true:=hv.2.1
   have h1:=(QgZ e).2
   have h2:=hv.2.2.1
   refine⟨QfZ 12 j' hg,QfP 12 j' hg, ?_⟩
   rw[QgA (Qfj hg)];omega
theorem Qjj{e:Nat×Nat}(h:QaA s= .error e):Er s e:=by
 unfold QaA at h
 split at h
 ·rename_i hl
  injection h with h
  rw[←h];exact er (by omega)
 split at h
 ·rename_i hb
  have h3:=(Qb3 (s.length+1) s 0 (by omega)).2.2
  have:Qaw s=QbD s (s.length+1) 0:=rfl
  injection h with h
  rw[←h]
  have:=h3 (by omega)
  exact er (by omega)
 rename_i hl hb
 have hu:U8 s:=by
  have h3:=(Qb3 (s.length+1) s 0 (by omega)).2.1
  have:Qaw s= -1:=by unfold Qaw at hb⊢;omega
  exact(Qci s).1 this
 have hv:=(Qem (s:=s) (2*s.length+3)).1 1 (Qac s 0) (QmA hu).blanks
 cases e':QaB s (2*s.length+3) 1 (Qac s 0)with
 |error x=>
  rw[e']at h hv
  injection h with h
  rw[←h];exact hv
 |ok jp=>
  obtain⟨j',p⟩:=jp
  rw[e']at h hv
  simp only at h
  split at h
  ·injection h with h
   rw[←h];exact er (At.blanks hv.2.2).1
  ·cases h
end
end Go.Proofs.YtmhmjlfajlpabaaDoor
namespace Go.Proofs.YtmhmjlfajlpabaaDoor
open Go Go.Abs Go.Lib
theorem QlZ{j:J}(h:goodB 12 j=true):Qgk j=Qaf j:=by unfold Qgk;rw[if_pos h]
theorem Qmm{j:J}(h:goodB 12 j=true):QbB j= .error 13∨(QbB j= .ok (QaT (Qaf j))∧¬16384<(QaT (Qaf j)).length):=by
 unfold QbB
 rw[if_pos h]
 by_cases hl:16384<(QaT (Qaf j)).length
 ·rw[if_pos hl];exact .inl rfl
 ·rw[if_neg hl];exact .inr ⟨rfl,hl⟩
theorem once_law(lim:Nat)(H:Qaa)(b:Tx):Ev (QaH code Qaq) 3 lim [.d (.slice (b.map byteD))] H (boolD true) H:=by
 refine Fn.ev ?_
 refine Qa2 (pn rfl) rfl (show code 3=some c3 from rfl) rfl ?_;simp only[List.length_cons,List.length_nil,List.cons_append,List.nil_append,simprocAttr]
 by_cases hl:20000<b.length
 ·have f1:((b.length:Int)>20000)=True:=eq_true (by omega)
  refine w_r (j_ f1 (@List.length_map.{0,0})) ?_
  exact Qad (vs:= [boolD true]) rfl rfl ⟨rfl,rfl⟩
 have f1:((b.length:Int)>20000)=False:=eq_false (by omega)
 refine w_r (j_ f1 (@List.length_map.{0,0})) ?_
 have a1:=QcU H.length H b
 have hzd:=jd J.zero
 obtain⟨M,kk,g1,s1⟩:∃M:AObj→Qaa,(∀o,H++ [o]=M o)∧(∀o,(M o)[H.length]? =some o)∧(∀o o',(M o).set H.length o'=M o'):=
  ⟨fun o=>H++ [o],fun _=>rfl,fun o=>by simp,fun o o'=>by simp⟩
 cases hd:QaA b with
 |error e=>
  obtain⟨c,p⟩:=e
  have he:=Qjj hd
  rw[hd]at a1
  simp only[QbC]at a1
  rw[hzd]at a1
  have e1:((c:Int) !=0)=true:=by have:=he.2;simp;simp only at this;omega
  have e2':((p:Int)≥0)=True:=eq_true (by omega)
  have e3':((p:Int)≤(b.length:Int))=True:=eq_true (by have:=he.1;simp only at this;omega)
  have a8:=QcC H.length (M (jO J.zero))
  refine w_1 a1 (j_ kk (j_ g1 s1)) ?_
  refine w_r e1 ?_
  refine w_1 a8 (j_ e2' (j_ e3' (@List.length_map.{0,0}))) ?_
  refine w_r trivial ?_
  exact Qad (vs:= [boolD true]) rfl (by rfl) ⟨rfl,rfl⟩
 |ok j=>
  obtain⟨hg,hoj,hwt⟩:=Qh0 hd
  have hw:wt j≤100000000000:=by omega
  have hjd:=jd j
  rw[hd]at a1
  simp only[QbC]at a1
  rw[hjd]at a1
  have b1:=Qfz H.length (M (jO j)) j hw
  rw[hjd]at b1
  have a8:=QcC H.length (M (jO j))
  refine w_1 a1 (j_ kk (j_ g1 s1)) ?_
  refine w_r trivial ?_
  rcases Qmm hg with he|⟨he,hle⟩
  ·rw[he]at b1
   simp only[Qqw]at b1
   refine w_1 b1 g1 ?_
   refine w_r trivial ?_
   refine w_1 a8 trivial ?_
   refine w_r trivial ?_
   exact Qad (vs:= [boolD true]) rfl rfl ⟨rfl,rfl⟩
  ·rw[he]at b1
   simp only[Qqw]at b1
   have hdb:=QdI hg hle
   rw[hoj]at hdb b1
   have a2:=QcU H.length (M (jO j)) (QaT j)
   rw[hdb]at a2
   simp only[QbC]at a2
   rw[hjd]at a2
   generalize QaT j=e at*
   obtain⟨M2,kk2,h1,h2,s2,s3⟩:∃M2:AObj→Qaa,(∀o,M (jO j)++ [o]=M2 o)∧(∀o,(M2 o)[H.length]? =some (.cells (jC j)))∧(∀o,(M2 o)[H.length+1]? =some o)∧(M (jO j)).length=H.length+1∧(∀o o',(M2 o).set (H.length+1) o'=M2 o'):=
    ⟨fun o=>M (jO j)++ [o],fun _=>rfl,fun o=>by simp[←kk],fun o=>by simp[←kk],by simp[←kk],fun o o'=>by simp[←kk]⟩
   have hll:H.length≤H.length+1:=by omega
   have a3:=QnI H.length (M2 (jO j)) j hw
   have a4:=Qip H.length (M2 (jO j)) j hw
   have a5:=Qe4 H.length (M2 (jO j)) hw
   have a6:=QcC H.length (M2 (jO j))
   rw[QlZ hg,hoj]at a4
   rw[hg,hjd]at a3
   rw[hjd]at a4 a5
   refine w_1 b1 g1 ?_
   refine w_r trivial ?_
   refine w_1 a2 (j_ kk2 (j_ h1 (j_ h2 (j_ s2 (j_ s3 hll))))) ?_
   refine Qlz ?_
   refine w_4 a3 a4 a5 a6 (j_ h1 h2) ?_
   refine w_r trivial ?_
   exact Qad (vs:= [boolD true]) rfl rfl ⟨rfl,rfl⟩
structure In (b:Bool) (s s':Tx) (d:Nat):Prop where
 get:∀p,p<s.length→s'[p+d]? =s[p]?
 out:∀c,s'[s.length+d]? =some c→Qaj c=true
 len:s.length+d≤s'.length
 low:b=true→∀c,s'[s.length+d]? =some c→c.toNat<32
 rest:b=true→∀c∈s'.drop (s.length+d),Qaj c=true
def Sm{α:Type}(b:Bool)(s:Tx)(d:Nat)(x y:Except (Nat×Nat) (α×Nat)):Prop:=match x with
 |.ok (a,q)=>q≤s.length∧(y= .ok (a,q+d)∨(b=false∧∃z,y= .error (12,z)))
 |.error (c,_)=>b=true→∃z,y= .error (c,z)∧d≤z
def Sn{α:Type}(b:Bool)(s:Tx)(d:Nat)(x y:Except (Nat×Nat) (α×Nat)):Prop:=match x with
 |.ok (a,q)=>q≤s.length∧y= .ok (a,q+d)
 |.error (c,_)=>b=true→∃z,y= .error (c,z)∧d≤z
def So(b:Bool)(s:Tx)(d:Nat)(x y:Except (Nat×Nat) Nat):Prop:=match x with
 |.ok q=>q≤s.length∧y= .ok (q+d)
 |.error (c,_)=>b=true→∃z,y= .error (c,z)∧d≤z
theorem QbS{s:Tx}{p:Nat}(h:s.length≤p):s[p]? =none:=List.getElem?_eq_none h
theorem so_err{b:Bool}{s:Tx}{d c x z:Nat}(h:d≤z):So b s d (.error (c,x)) (.error (c,z)):=fun _=>⟨z,rfl,h⟩
theorem QdN{α:Type}{b:Bool}{s:Tx}{d c x z:Nat}(h:d≤z):Sn (α:=α) b s d (.error (c,x)) (.error (c,z)):=fun _=>⟨z,rfl,h⟩
theorem sm_err{α:Type}{b:Bool}{s:Tx}{d c x z:Nat}(h:d≤z):Sm (α:=α) b s d (.error (c,x)) (.error (c,z)):=fun _=>⟨z,rfl,h⟩
section
variable {b:Bool} {s s':Tx} {d:Nat}
theorem In.iff(h:In b s s' d){p:Nat}(hp:p≤s.length){c:UInt8}(hc:Qaj c=false):s'[p+d]? =some c↔s[p]? =some c:=by
 by_cases hl:p<s.length
 ·rw[h.get p hl]
 ·have e:p=s.length:=by omega
  subst e
  rw[QbS (Nat.le_refl _)]
  constructor
  ·intro h1;have:=h.out c h1;rw[hc]at this;cases this
  ·intro h1;cases h1
theorem In.nx(h:In b s s' d){p:Nat}(hp:p≤s.length):nx s' (p+d)=nx s p∨(nx s p=0∧Qaj (nx s' (p+d))=true∧p=s.length):=by
 by_cases hl:p<s.length
 ·left;unfold YtmhmjlfajlpabaaDoor.nx;rw[h.get p hl]
 ·have e:p=s.length:=by omega
  subst e
  unfold YtmhmjlfajlpabaaDoor.nx
  rw[QbS (s:=s) (Nat.le_refl _)]
  cases hx:s'[s.length+d]? with
  |none=>exact .inl rfl
  |some c=>exact .inr ⟨rfl,h.out c hx,rfl⟩
theorem In.ask(h:In b s s' d){p:Nat}(hp:p≤s.length){P:UInt8→Prop}(h0:∀c,Qaj c=true→¬P c)(hz:¬P 0):P (YtmhmjlfajlpabaaDoor.nx s' (p+d))↔P (YtmhmjlfajlpabaaDoor.nx s p):=by
 rcases h.nx hp with e|⟨e,hb,_⟩
 ·rw[e]
 ·rw[e];exact⟨fun h=>absurd h (h0 _ hb),fun h=>absurd h hz⟩
theorem In.want(h:In b s s' d){p:Nat}(hp:p≤s.length){c:UInt8}(hc:Qaj c=false):So b s d (QbP s c p) (QbP s' c (p+d)):=by
 unfold QbP
 have hi:=h.iff hp hc
 by_cases hg:s[p]? =some c
 ·rw[if_pos hg,if_pos (hi.2 hg)]
  have:=(List.getElem?_eq_some_iff.1 hg).1
  refine⟨this, ?_⟩
  congr 1;omega
 ·rw[if_neg hg,if_neg (fun h=>hg (hi.1 h))];exact so_err (by omega)
theorem In.word(h:In b s s' d):∀(w:Tx) {p:Nat},p≤s.length→(∀c∈w,Qaj c=false)→So b s d (QbF s w p) (QbF s' w (p+d))
 | [],p,hp,_=>⟨hp,rfl⟩
 |c::w,p,hp,hw=>by
  unfold QbF
  have h1:=h.want hp (hw c (by simp))
  cases e:QbP s c p with
  |error x=>
   obtain⟨c',x⟩:=x
   rw[e]at h1
   intro hb
   obtain⟨z,hz,hd⟩:=h1 hb
   exact⟨z,by rw[hz],hd⟩
  |ok q=>
   rw[e]at h1
   obtain⟨h2,h3⟩:=h1
   rw[h3]
   exact In.word h w h2 fun d hd=>hw d (by simp[hd])
theorem QqM{c:UInt8}(h:Qaj c=true):¬QaE c=true:=by
 simp only[Qaj,Bool.or_eq_true,beq_iff_eq]at h
 rcases h with((rfl|rfl)|rfl)|rfl<;>decide
theorem In.dig(h:In b s s' d){p:Nat}(hp:p≤s.length):(QaE (YtmhmjlfajlpabaaDoor.nx s' (p+d))=true)↔QaE (YtmhmjlfajlpabaaDoor.nx s p)=true:=
 h.ask (P:=fun c=>QaE c=true) hp (fun _=>QqM) (by decide)
theorem QnG{c e:UInt8}(he:Qaj e=false)(h:Qaj c=true):¬c=e:=fun h'=>by rw[h',he]at h;cases h
theorem In.is(h:In b s s' d){p:Nat}(hp:p≤s.length){c:UInt8}(hc:Qaj c=false)(h0:c≠0):YtmhmjlfajlpabaaDoor.nx s' (p+d)=c↔YtmhmjlfajlpabaaDoor.nx s p=c:=
 h.ask (P:=fun x=>x=c) hp (fun _=>QnG hc) (fun h=>h0 h.symm)
theorem In.eq(h:In b s s' d){p:Nat}(hp:QaE (YtmhmjlfajlpabaaDoor.nx s p)=true)(hl:p≤s.length):YtmhmjlfajlpabaaDoor.nx s' (p+d)=YtmhmjlfajlpabaaDoor.nx s p:=by
 rcases h.nx hl with e|⟨e,_,_⟩
 ·exact e
 ·rw[e]at hp;cases hp
theorem In.digits(h:In b s s' d){first:Nat}(hf:first≤s.length):∀(f f' n p:Nat),p≤s.length→s.length-p<f→f≤f'→Sn b s d (Qa0 s first f n p) (Qa0 s' (first+d) f' n (p+d))
 |0,_,_,_,_,h1,_=>by omega
 |f+1,0,_,_,_,_,h2=>by omega
 |f+1,f'+1,n,p,hp,h1,h2=>by
  unfold Qa0
  have hd:=h.dig hp
  by_cases hg:QaE (YtmhmjlfajlpabaaDoor.nx s p)=true
  ·rw[if_pos hg,if_pos (hd.2 hg),h.eq hg hp]
   have hget:=Qmo hg
   have hlt:=(List.getElem?_eq_some_iff.1 hget).1
   have e1:(p+d=first+d+1∧YtmhmjlfajlpabaaDoor.nx s' (first+d)=48)↔(p=first+1∧YtmhmjlfajlpabaaDoor.nx s first=48):=by
    rw[h.is hf (by rfl) (by decide)]
    constructor<;>rintro⟨h1,h2⟩<;>exact⟨by omega,h2⟩
   by_cases hz:p=first+1∧YtmhmjlfajlpabaaDoor.nx s first=48
   ·rw[if_pos hz,if_pos (e1.2 hz)];exact QdN (by omega)
   ·rw[if_neg hz,if_neg (fun h=>hz (e1.1 h))]
    have:=In.digits h hf f f' (if n≤9007199254740991 then 10*n+((YtmhmjlfajlpabaaDoor.nx s p).toNat-48)else n) (p+1) hlt (by omega) (by omega)
    rwa [show p+1+d=p+d+1 by omega]at this
  ·rw[if_neg hg,if_neg (fun h=>hg (hd.1 h))]
   exact⟨hp,rfl⟩
theorem In.number(h:In b s s' d){p:Nat}(hp:p≤s.length):Sn b s d (QaZ s p) (QaZ s' (p+d)):=by
 unfold QaZ
 have h45:=h.is hp (c:=45) (by rfl) (by decide)
 have hfe:(if YtmhmjlfajlpabaaDoor.nx s' (p+d)=45 then p+d+1 else p+d)=(if YtmhmjlfajlpabaaDoor.nx s p=45 then p+1 else p)+d:=by
  by_cases hc:YtmhmjlfajlpabaaDoor.nx s p=45
  ·rw[if_pos hc,if_pos (h45.2 hc)];omega
  ·rw[if_neg hc,if_neg (fun h=>hc (h45.1 h))]
 have hfl:(if YtmhmjlfajlpabaaDoor.nx s p=45 then p+1 else p)≤s.length:=by
  by_cases hc:YtmhmjlfajlpabaaDoor.nx s p=45
  ·rw[if_pos hc]
   have:=Qhx (s:=s) (p:=p) (by rw[hc];decide)
   exact(List.getElem?_eq_some_iff.1 this).1
  ·rw[if_neg hc];exact hp
 simp only
 rw[hfe]
 generalize(if YtmhmjlfajlpabaaDoor.nx s p=45 then p+1 else p)=first at hfl⊢
 have hd:=h.dig hfl
 by_cases hg:QaE (YtmhmjlfajlpabaaDoor.nx s first)=true
 ·rw[if_pos hg,if_pos (hd.2 hg)]
  have:=h.digits hfl (s.length+1) (s'.length+1) 0 first hfl (by omega) (by have:=h.len;omega)
  cases e:Qa0 s first (s.length+1) 0 first with
  |error x=>
   obtain⟨c,x⟩:=x
   rw[e]at this
   intro hb
   obtain⟨z,hz,hd⟩:=this hb
   exact⟨z,by rw[hz],hd⟩
  |ok nq=>
   obtain⟨n,q⟩:=nq
   rw[e]at this
   obtain⟨hq,he⟩:=this
   rw[he]
   simp only
   have e1:(9007199254740991<n∨YtmhmjlfajlpabaaDoor.nx s' (q+d)=46∨YtmhmjlfajlpabaaDoor.nx s' (q+d)=101∨YtmhmjlfajlpabaaDoor.nx s' (q+d)=69)↔(9007199254740991<n∨YtmhmjlfajlpabaaDoor.nx s q=46∨YtmhmjlfajlpabaaDoor.nx s q=101∨YtmhmjlfajlpabaaDoor.nx s q=69):=by
    rw[h.is hq (by rfl) (by decide),h.is hq (by rfl) (by decide),h.is hq (by rfl) (by decide)]
   by_cases hb:9007199254740991<n∨YtmhmjlfajlpabaaDoor.nx s q=46∨YtmhmjlfajlpabaaDoor.nx s q=101∨YtmhmjlfajlpabaaDoor.nx s q=69
   ·rw[if_pos hb,if_pos (e1.2 hb)];exact QdN (by omega)
   ·rw[if_neg hb,if_neg (fun h=>hb (e1.1 h))]
    have e2:(p+d<first+d)=(p<first):=propext (by omega)
    simp only[e2]
    exact⟨hq,rfl⟩
 ·rw[if_neg hg,if_neg (fun h=>hg (hd.1 h))];exact QdN (by omega)
end
end Go.Proofs.YtmhmjlfajlpabaaDoor
namespace Go.Proofs.YtmhmjlfajlpabaaDoor
open Go Go.Abs Go.Lib
section
variable {b:Bool} {s s':Tx} {d:Nat}
theorem Qom{c:UInt8}(h:Qaj c=true):Qqd c=none:=by
 simp only[Qaj,Bool.or_eq_true,beq_iff_eq]at h
 rcases h with((rfl|rfl)|rfl)|rfl<;>rfl
theorem In.code(h:In b s s' d):∀(k n p:Nat),p≤s.length→Sn b s d (Qbo s k n p) (Qbo s' k n (p+d))
 |0,n,p,hp=>⟨hp,rfl⟩
 |k+1,n,p,hp=>by
  unfold Qbo
  by_cases hl:p<s.length
  ·rw[h.get p hl]
   obtain⟨c,hc⟩:∃c,s[p]? =some c:=⟨_,List.getElem?_eq_getElem hl⟩
   rw[hc]
   simp only
   cases hv:Qqd c with
   |none=>exact QdN (by omega)
   |some v=>
    have:=In.code h k (16*n+v) (p+1) hl
    rwa [show p+1+d=p+d+1 by omega]at this
  ·have e:p=s.length:=by omega
   subst e
   rw[QbS (s:=s) (Nat.le_refl _)]
   simp only
   cases hx:s'[s.length+d]? with
   |none=>exact QdN (by omega)
   |some c=>simp only[Qom (h.out c hx)];exact QdN (by omega)
theorem Qj4:∀(k n p:Nat) {m q:Nat},Qbo s k n p= .ok (m,q)→p≤q
 |0,n,p,m,q,h=>by unfold Qbo at h;injection h with h;injection h with _ h;omega
 |k+1,n,p,m,q,h=>by
  unfold Qbo at h
  cases hc:s[p]? with
  |none=>rw[hc]at h;cases h
  |some c=>
   rw[hc]at h
   simp only at h
   cases hv:Qqd c with
   |none=>rw[hv]at h;cases h
   |some v=>
    rw[hv]at h
    have:=Qj4 k _ _ h
    omega
theorem esc_pos{p n q:Nat}(h:QdR s p= .ok (n,q)):p<q:=by
 unfold QdR at h
 cases hc:s[p]? with
 |none=>rw[hc]at h;cases h
 |some c=>
  rw[hc]at h
  simp only at h
  have fin:∀ {m:Nat},(Except.ok (m,p+1):Except (Nat×Nat) (Nat×Nat))= .ok (n,q)→p<q:=fun h=>by injection h with h;injection h with _ h;omega
  by_cases h1:c=34∨c=92∨c=47
  ·rw[if_pos h1]at h;exact fin h
  rw[if_neg h1]at h
  by_cases h2:c=98
  ·rw[if_pos h2]at h;exact fin h
  rw[if_neg h2]at h
  by_cases h3:c=102
  ·rw[if_pos h3]at h;exact fin h
  rw[if_neg h3]at h
  by_cases h4:c=110
  ·rw[if_pos h4]at h;exact fin h
  rw[if_neg h4]at h
  by_cases h5:c=114
  ·rw[if_pos h5]at h;exact fin h
  rw[if_neg h5]at h
  by_cases h6:c=116
  ·rw[if_pos h6]at h;exact fin h
  rw[if_neg h6]at h
  by_cases h7:c=117
  ·rw[if_pos h7]at h
   cases e:Qbo s 4 0 (p+1)with
   |error x=>rw[e]at h;cases h
   |ok mz=>
    obtain⟨m,z⟩:=mz
    have hz:=Qj4 _ _ _ e
    rw[e]at h
    simp only at h
    by_cases k1:m<55296∨57343<m
    ·rw[if_pos k1]at h;injection h with h;injection h with _ h;omega
    rw[if_neg k1]at h
    by_cases k2:56320≤m∨¬(s[z]? =some 92∧s[z+1]? =some 117)
    ·rw[if_pos k2]at h;cases h
    rw[if_neg k2]at h
    cases e2:Qbo s 4 0 (z+2)with
    |error x=>rw[e2]at h;cases h
    |ok my=>
     obtain⟨m',y⟩:=my
     have hy:=Qj4 _ _ _ e2
     rw[e2]at h
     simp only at h
     by_cases k3:m'<56320∨57343<m'
     ·rw[if_pos k3]at h;cases h
     ·rw[if_neg k3]at h;injection h with h;injection h with _ h;omega
  ·rw[if_neg h7]at h;cases h
theorem In.esc(h:In b s s' d){p:Nat}(hp:p≤s.length)(h1:1≤p):Sn b s d (QdR s p) (QdR s' (p+d)):=by
 unfold QdR
 by_cases hl:p<s.length
 ·rw[h.get p hl]
  obtain⟨c,hc⟩:∃c,s[p]? =some c:=⟨_,List.getElem?_eq_getElem hl⟩
  rw[hc]
  simp only
  have fin:∀n:Nat,Sn b s d (.ok (n,p+1)) (.ok (n,p+d+1)):=fun n=>⟨hl,by rw[show p+d+1=p+1+d by omega]⟩
  by_cases k1:c=34∨c=92∨c=47
  ·rw[if_pos k1,if_pos k1];exact fin _
  rw[if_neg k1,if_neg k1]
  by_cases k2:c=98
  ·rw[if_pos k2,if_pos k2];exact fin _
  rw[if_neg k2,if_neg k2]
  by_cases k3:c=102
  ·rw[if_pos k3,if_pos k3];exact fin _
  rw[if_neg k3,if_neg k3]
  by_cases k4:c=110
  ·rw[if_pos k4,if_pos k4];exact fin _
  rw[if_neg k4,if_neg k4]
  by_cases k5:c=114
  ·rw[if_pos k5,if_pos k5];exact fin _
  rw[if_neg k5,if_neg k5]
  by_cases k6:c=116
  ·rw[if_pos k6,if_pos k6];exact fin _
  rw[if_neg k6,if_neg k6]
  by_cases k7:c=117
  ·rw[if_pos k7,if_pos k7]
   have g1:=h.code 4 0 (p+1) hl
   rw[show p+1+d=p+d+1 by omega]at g1
   cases e:Qbo s 4 0 (p+1)with
   |error x=>
    obtain⟨c',x⟩:=x
    rw[e]at g1
    intro hb
    obtain⟨z,hz,hd⟩:=g1 hb
    exact⟨z,by rw[hz],hd⟩
   |ok nq=>
    obtain⟨n,q⟩:=nq
    rw[e]at g1
    obtain⟨hq,he⟩:=g1
    rw[he]
    simp only
    by_cases m1:n<55296∨57343<n
    ·rw[if_pos m1,if_pos m1];exact⟨hq,rfl⟩
    rw[if_neg m1,if_neg m1]
    have hpair:(s'[q+d]? =some 92∧s'[q+d+1]? =some 117)↔(s[q]? =some 92∧s[q+1]? =some 117):=by
     rw[h.iff hq (by rfl)]
     constructor
     ·rintro⟨a1,a2⟩
      have hql:=(List.getElem?_eq_some_iff.1 a1).1
      exact⟨a1,(h.iff (p:=q+1) hql (by rfl)).1 (by rw[show q+1+d=q+d+1 by omega];exact a2)⟩
     ·rintro⟨a1,a2⟩
      have hql:=(List.getElem?_eq_some_iff.1 a1).1
      exact⟨a1,by rw[show q+d+1=q+1+d by omega];exact(h.iff (p:=q+1) hql (by rfl)).2 a2⟩
    have hcond:(56320≤n∨¬(s'[q+d]? =some 92∧s'[q+d+1]? =some 117))↔(56320≤n∨¬(s[q]? =some 92∧s[q+1]? =some 117)):=by rw[hpair]
    by_cases m2:56320≤n∨¬(s[q]? =some 92∧s[q+1]? =some 117)
    ·rw[if_pos m2,if_pos (hcond.2 m2)];exact QdN (by omega)
    rw[if_neg m2,if_neg (fun h=>m2 (hcond.1 h))]
    have m3:s[q]? =some 92∧s[q+1]? =some 117:=Decidable.not_not.1 fun h=>m2 (.inr h)
    have hq2:q+2≤s.length:=(List.getElem?_eq_some_iff.1 m3.2).1
    have g2:=h.code 4 0 (q+2) hq2
    rw[show q+2+d=q+d+2 by omega]at g2
    cases e2:Qbo s 4 0 (q+2)with
    |error x=>
     obtain⟨c',x⟩:=x
     rw[e2]at g2
     intro hb
     obtain⟨z,hz,hd⟩:=g2 hb
     exact⟨z,by rw[hz],hd⟩
    |ok mz=>
     obtain⟨m,z⟩:=mz
     rw[e2]at g2
     obtain⟨hz,he2⟩:=g2
     rw[he2]
     simp only
     by_cases m4:m<56320∨57343<m
     ·rw[if_pos m4,if_pos m4];exact QdN (by omega)
     ·rw[if_neg m4,if_neg m4];exact⟨hz,rfl⟩
  ·rw[if_neg k7,if_neg k7];exact QdN (by omega)
 ·have e:p=s.length:=by omega
  subst e
  rw[QbS (s:=s) (Nat.le_refl _)]
  simp only
  cases hx:s'[s.length+d]? with
  |none=>exact QdN (by omega)
  |some c=>
   have hb:=h.out c hx
   have hne:∀x:UInt8,Qaj x=false→c≠x:=fun x hx=>QnG hx hb
   simp only
   rw[if_neg (by rintro(h|h|h)<;>exact hne _ (by rfl) h),if_neg (hne _ (by rfl)),if_neg (hne _ (by rfl)),if_neg (hne _ (by rfl)),if_neg (hne _ (by rfl)),if_neg (hne _ (by rfl)),if_neg (hne _ (by rfl))]
   exact QdN (by omega)
theorem In.chars(h:In b s s' d):∀(f f':Nat) (acc:Tx) (p:Nat),p≤s.length→s.length-p<f→f≤f'→Sn b s d (QaW s f acc p) (QaW s' f' acc (p+d))
 |0,_,_,_,_,h1,_=>by omega
 |f+1,0,_,_,_,_,h2=>by omega
 |f+1,f'+1,acc,p,hp,h1,h2=>by
  unfold QaW
  by_cases hl:p<s.length
  ·rw[h.get p hl]
   obtain⟨c,hc⟩:∃c,s[p]? =some c:=⟨_,List.getElem?_eq_getElem hl⟩
   rw[hc]
   simp only
   by_cases k1:c.toNat<32
   ·rw[if_pos k1,if_pos k1];exact QdN (by omega)
   rw[if_neg k1,if_neg k1]
   by_cases k2:c=34
   ·rw[if_pos k2,if_pos k2]
    exact⟨hl,by rw[show p+d+1=p+1+d by omega]⟩
   rw[if_neg k2,if_neg k2]
   by_cases k3:c=92
   ·rw[if_pos k3,if_pos k3]
    have g1:=h.esc (p:=p+1) hl (by omega)
    rw[show p+1+d=p+d+1 by omega]at g1
    cases e:QdR s (p+1)with
    |error x=>
     obtain⟨c',x⟩:=x
     rw[e]at g1
     intro hb
     obtain⟨z,hz,hd⟩:=g1 hb
     exact⟨z,by rw[hz],hd⟩
    |ok nq=>
     obtain⟨n,q⟩:=nq
     have hq0:=esc_pos e
     rw[e]at g1
     obtain⟨hq,he⟩:=g1
     rw[he]
     exact In.chars h f f' (acc++Qco n) q hq (by omega) (by omega)
   ·rw[if_neg k3,if_neg k3]
    have:=In.chars h f f' (acc++ [c]) (p+1) hl (by omega) (by omega)
    rwa [show p+1+d=p+d+1 by omega]at this
  ·have e:p=s.length:=by omega
   subst e
   rw[QbS (s:=s) (Nat.le_refl _)]
   simp only
   intro hb
   cases hx:s'[s.length+d]? with
   |none=>exact⟨_,rfl,by omega⟩
   |some c=>
    simp only
    rw[if_pos (h.low hb c hx)]
    exact⟨_,rfl,by omega⟩
theorem In.text(h:In b s s' d){p:Nat}(hp:p≤s.length):Sn b s d (Qbq s p) (Qbq s' (p+d)):=by
 unfold Qbq
 have h1:=h.want hp (c:=34) (by rfl)
 cases e:QbP s 34 p with
 |error x=>
  obtain⟨c',x⟩:=x
  rw[e]at h1
  intro hb
  obtain⟨z,hz,hd⟩:=h1 hb
  exact⟨z,by rw[hz],hd⟩
 |ok q=>
  rw[e]at h1
  obtain⟨h2,h3⟩:=h1
  rw[h3]
  have:=h.len
  exact h.chars (s.length+1) (s'.length+1) [] q h2 (by omega) (by omega)
end
end Go.Proofs.YtmhmjlfajlpabaaDoor
namespace Go.Proofs.YtmhmjlfajlpabaaDoor
open Go Go.Abs Go.Lib
section
variable {b:Bool} {s s':Tx} {d:Nat}
theorem In.drop(h:In b s s' d){p:Nat}(hp:p≤s.length):s'.drop (p+d)=s.drop p++s'.drop (s.length+d):=by
 apply List.ext_getElem?
 intro i
 rw[List.getElem?_drop]
 by_cases hi:i<(s.drop p).length
 ·rw[List.getElem?_append_left hi,List.getElem?_drop]
  rw[List.length_drop]at hi
  rw[show p+d+i=p+i+d by omega]
  exact h.get (p+i) (by omega)
 ·rw[List.getElem?_append_right (by omega),List.getElem?_drop,List.length_drop]
  rw[List.length_drop]at hi
  congr 1;omega
theorem Qgt{p:Nat}(hp:p≤s.length):Qac s p≤s.length:=by
 unfold Qac
 have:=congrArg List.length (List.takeWhile_append_dropWhile (p:=Qaj) (l:=s.drop p))
 rw[List.length_append,List.length_drop]at this
 omega
theorem Qft(p:Nat):p≤Qac s p:=by unfold Qac;omega
theorem Qij{l:Tx}:∀c∈l.takeWhile Qaj,Qaj c=true:=fun c hc=>by
 have:=List.all_takeWhile (p:=Qaj) (l:=l)
 exact List.all_eq_true.1 this c hc
theorem QgV:∀ {l:Tx},(∀c∈l,Qaj c=true)→l.takeWhile Qaj=l
 | [],_=>rfl
 |c::l,h=>by rw[List.takeWhile_cons_of_pos (h c (by simp)),QgV fun d hd=>h d (by simp[hd])]
theorem In.blanks(h:In b s s' d){p:Nat}(hp:p≤s.length)(hl:Qac s p<s.length):Qac s' (p+d)=Qac s p+d:=by
 have hw:=List.takeWhile_append_dropWhile (p:=Qaj) (l:=s.drop p)
 have hlen:=congrArg List.length hw
 rw[List.length_append,List.length_drop]at hlen
 unfold Qac at hl⊢
 rw[h.drop hp]
 cases hr:(s.drop p).dropWhile Qaj with
 |nil=>rw[hr]at hlen;simp at hlen;omega
 |cons c r=>
  have hc:Qaj c=false:=by
   have:=List.head?_dropWhile_not Qaj (s.drop p)
   rw[hr]at this
   simpa using this
  have e:s.drop p++s'.drop (s.length+d)=(s.drop p).takeWhile Qaj++(c::(r++s'.drop (s.length+d))):=by
   conv=>lhs;rw[←hw,hr]
   simp
  rw[e,List.takeWhile_append_of_pos Qij,List.takeWhile_cons_of_neg (by simp[hc])]
  simp;omega
theorem In.blanks_end(h:In b s s' d)(hb:b=true){p:Nat}(hp:p≤s.length)(hl:Qac s p=s.length):s'[Qac s' (p+d)]? =none∧d≤Qac s' (p+d):=by
 have hw:=List.takeWhile_append_dropWhile (p:=Qaj) (l:=s.drop p)
 have hlen:=congrArg List.length hw
 rw[List.length_append,List.length_drop]at hlen
 have hr:(s.drop p).dropWhile Qaj= []:=by
  unfold Qac at hl
  exact List.length_eq_zero_iff.1 (by omega)
 have hall:∀c∈s.drop p,Qaj c=true:=by
  rw[hr,List.append_nil]at hw
  rw[←hw];exact Qij
 have e:Qac s' (p+d)=s'.length:=by
  unfold Qac
  rw[QgV (by
   rw[h.drop hp]
   intro c hc
   rcases List.mem_append.1 hc with hc|hc
   ·exact hall c hc
   ·exact h.rest hb c hc),List.length_drop]
  have:=h.len
  omega
 rw[e]
 have:=h.len
 exact⟨QbS (Nat.le_refl _),by omega⟩
theorem nxl_end{p:Nat}(h:s[p]? =none):nx s p=0:=by unfold nx;rw[h];rfl
theorem QcK(f deep:Nat){p:Nat}(h:s[p]? =none):QaB s f deep p= .error (11,p):=by
 cases f with
 |zero=>unfold QaB;rfl
 |succ f=>
  have h0:=nxl_end h
  have hn:QaZ s p= .error (11,p):=by
   unfold QaZ
   simp only
   rw[if_neg (show ¬nx s p=45 by rw[h0];decide),if_neg (by rw[h0];decide)]
  unfold QaB
  rw[if_neg (by rw[h0];exact fun h=>absurd h.2 (by decide)),if_neg (by rw[h0];decide),if_neg (by rw[h0];decide),if_neg (by rw[h0];decide),if_neg (by rw[h0];decide),if_neg (by rw[h0];decide),if_neg (by rw[h0];decide),hn]
theorem QeX{p:Nat}(c:UInt8)(h:s[p]? =none):QbP s c p= .error (11,p):=by
 unfold QbP;rw[h,if_neg (by simp)]
theorem QmQ{p:Nat}(h:s[p]? =none):Qbq s p= .error (11,p):=by
 unfold Qbq;rw[QeX 34 h]
theorem In.more(h:In b s s' d){p:Nat}(hp:p≤s.length)(first:Bool){c:UInt8}(hc:Qaj c=false):match QbI s first c p with
  |.ok (false,q)=>q≤s.length∧p<q∧QbI s' first c (p+d)= .ok (false,q+d)
  |.ok (true,q)=>p≤q∧(first=false→p<q)∧q≤s.length∧(q<s.length→QbI s' first c (p+d)= .ok (true,q+d))∧(q=s.length→b=true→∃z,QbI s' first c (p+d)= .ok (true,z)∧s'[z]? =none∧d≤z)
  |.error (e,_)=>b=true→∃z,QbI s' first c (p+d)= .error (e,z)∧d≤z:=by
 unfold QbI
 simp only
 have hge:=Qft (s:=s) p
 have hle:=Qgt (s:=s) hp
 by_cases hl:Qac s p<s.length
 ·rw[h.blanks hp hl]
  have hi:=h.iff (p:=Qac s p) hle hc
  by_cases h1:s[Qac s p]? =some c
  ·rw[if_pos h1,if_pos (hi.2 h1)]
   exact⟨hl,by omega,by rw[show Qac s p+d+1=Qac s p+1+d by omega]⟩
  rw[if_neg h1,if_neg (fun h=>h1 (hi.1 h))]
  cases first with
  |true=>exact⟨hge,by simp,hle,fun _=>rfl,fun h=>by omega⟩
  |false=>
   simp only[Bool.false_eq_true,if_false]
   have hw:=h.want hle (c:=44) (by rfl)
   cases e:QbP s 44 (Qac s p)with
   |error x=>
    obtain⟨c',x⟩:=x
    rw[e]at hw
    intro hb
    obtain⟨z,hz,hd⟩:=hw hb
    exact⟨z,by rw[hz],hd⟩
   |ok q=>
    have hq0:q=Qac s p+1:=by unfold QbP at e;split at e<;>simp at e;omega
    rw[e]at hw
    obtain⟨hq,he⟩:=hw
    rw[he]
    simp only
    have g1:=Qft (s:=s) q
    have g2:=Qgt (s:=s) hq
    refine⟨by omega,fun _=>by omega,g2,fun hlt=>by rw[h.blanks hq hlt],fun heq hb=> ?_⟩
    obtain⟨z1,z2⟩:=h.blanks_end hb hq heq
    exact⟨_,rfl,z1,z2⟩
 ·have heq:Qac s p=s.length:=by omega
  have hn:s[Qac s p]? =none:=QbS (by omega)
  rw[hn,if_neg (by simp)]
  cases first with
  |true=>
   refine⟨hge,by simp,hle,fun h=>absurd h hl,fun _ hb=> ?_⟩
   obtain⟨z1,z2⟩:=h.blanks_end hb hp heq
   rw[z1,if_neg (by simp)]
   exact⟨_,rfl,z1,z2⟩
  |false=>
   simp only[Bool.false_eq_true,if_false]
   rw[QeX 44 hn]
   intro hb
   obtain⟨z1,z2⟩:=h.blanks_end hb hp heq
   rw[z1,if_neg (by simp),QeX 44 z1]
   exact⟨_,rfl,z2⟩
end
end Go.Proofs.YtmhmjlfajlpabaaDoor
namespace Go.Proofs.YtmhmjlfajlpabaaDoor
open Go Go.Abs Go.Lib
def Sf(b:Bool)(s:Tx)(d:Nat)(x y:Except (Nat×Nat) (List Tx×List J×Nat)):Prop:=match x with
 |.ok (k,l,q)=>q≤s.length∧(y= .ok (k,l,q+d)∨(b=false∧∃z,y= .error (12,z)))
 |.error (c,_)=>b=true→∃z,y= .error (c,z)∧d≤z
section
variable {b:Bool} {s s':Tx} {d:Nat}
theorem Sm.deep{α:Type}{x y:Except (Nat×Nat) (α×Nat)}(h:Sm b s d x y)(hb:b=false)(w:Nat):Sm b s d x (.error (12,w)):=by
 cases x with
 |error e=>obtain⟨c,x⟩:=e;intro hb';rw[hb]at hb';cases hb'
 |ok aq=>obtain⟨a,q⟩:=aq;exact⟨h.1,.inr ⟨hb,w,rfl⟩⟩
theorem Sf.deep{x y:Except (Nat×Nat) (List Tx×List J×Nat)}(h:Sf b s d x y)(hb:b=false)(w:Nat):Sf b s d x (.error (12,w)):=by
 cases x with
 |error e=>obtain⟨c,x⟩:=e;intro hb';rw[hb]at hb';cases hb'
 |ok aq=>obtain⟨a,l,q⟩:=aq;exact⟨h.1,.inr ⟨hb,w,rfl⟩⟩
theorem Qkg{f deep p q:Nat}{j:J}(h:QaB s f deep p= .ok (j,q)):p<q:=by
 have h1:=(QgZ h).2
 have h2:=Qkd j
 omega
theorem Qlu{c:UInt8}(h:Qaj c=true):¬Qcv c=true:=by
 simp only[Qaj,Bool.or_eq_true,beq_iff_eq]at h
 rcases h with((rfl|rfl)|rfl)|rfl<;>decide
theorem QeY(h:In b s s' d){e:Nat}(he:b=true→e=0):∀f:Nat,
  (∀f' deep p,f≤f'→p≤s.length→2*(s.length-p)+1≤f→Sm b s d (QaB s f deep p) (QaB s' f' (deep+e) (p+d)))∧
  (∀f' deep first acc p,f≤f'→p≤s.length→2*(s.length-p)+2≤f→Sm b s d (Qbs s f deep first acc p) (Qbs s' f' (deep+e) first acc (p+d)))∧
  (∀f' deep first ks acc p,f≤f'→p≤s.length→2*(s.length-p)+2≤f→Sf b s d (QaN s f deep first ks acc p) (QaN s' f' (deep+e) first ks acc (p+d)))
 |0=>⟨fun _ _ _ _ _ h=>by omega,fun _ _ _ _ _ _ _ h=>by omega,fun _ _ _ _ _ _ _ _ h=>by omega⟩
 |f+1=>by
  obtain⟨iv,il,ik⟩:=QeY h he f
  refine⟨fun f' deep p hf hp hfu=> ?_,fun f' deep first acc p hf hp hfu=> ?_,fun f' deep first ks acc p hf hp hfu=> ?_⟩
  ·obtain⟨f',rfl⟩:∃g,f'=g+1:=⟨f'-1,by omega⟩
   unfold QaB
   have hbg:Qcv (nx s' (p+d))=true↔Qcv (nx s p)=true:=h.ask (P:=fun c=>Qcv c=true) hp (fun _=>Qlu) (by decide)
   by_cases hd:12<deep∧Qcv (nx s p)=true
   ·rw[if_pos hd,if_pos ⟨by omega,hbg.2 hd.2⟩];exact sm_err (by omega)
   rw[if_neg hd]
   have main:Sm b s d (if nx s p=91 then match Qbs s f deep true [] (p+1)with
     |.error e=> .error e
     |.ok (l,p)=> .ok (.mk 4 0 [] [] l,p)
    else if nx s p=123 then match QaN s f deep true [] [] (p+1)with
     |.error e=> .error e
     |.ok (ks,l,p)=> .ok (.mk 5 0 [] ks l,p)
    else if nx s p=34 then match Qbq s p with
     |.error e=> .error e
     |.ok (t,p)=> .ok (.mk 3 0 t [] [],p)
    else if nx s p=110 then match QbF s [110,117,108,108] p with
     |.error e=> .error e
     |.ok p=> .ok (.mk 0 0 [] [] [],p)
    else if nx s p=116 then match QbF s [116,114,117,101] p with
     |.error e=> .error e
     |.ok p=> .ok (.mk 1 1 [] [] [],p)
    else if nx s p=102 then match QbF s [102,97,108,115,101] p with
     |.error e=> .error e
     |.ok p=> .ok (.mk 1 0 [] [] [],p)
    else QaZ s p:PR J) (if nx s' (p+d)=91 then match Qbs s' f' (deep+e) true [] (p+d+1)with
     |.error e=> .error e
     |.ok (l,p)=> .ok (.mk 4 0 [] [] l,p)
    else if nx s' (p+d)=123 then match QaN s' f' (deep+e) true [] [] (p+d+1)with
     |.error e=> .error e
     |.ok (ks,l,p)=> .ok (.mk 5 0 [] ks l,p)
    else if nx s' (p+d)=34 then match Qbq s' (p+d)with
     |.error e=> .error e
     |.ok (t,p)=> .ok (.mk 3 0 t [] [],p)
    else if nx s' (p+d)=110 then match QbF s' [110,117,108,108] (p+d)with
     |.error e=> .error e
     |.ok p=> .ok (.mk 0 0 [] [] [],p)
    else if nx s' (p+d)=116 then match QbF s' [116,114,117,101] (p+d)with
     |.error e=> .error e
     |.ok p=> .ok (.mk 1 1 [] [] [],p)
    else if nx s' (p+d)=102 then match QbF s' [102,97,108,115,101] (p+d)with
     |.error e=> .error e
     |.ok p=> .ok (.mk 1 0 [] [] [],p)
    else QaZ s' (p+d)):=by
    have word:∀(w:Tx) (j:J),(∀c∈w,Qaj c=false)→Sm b s d (match QbF s w p with
      |.error e=> .error e
      |.ok p=> .ok (j,p):PR J) (match QbF s' w (p+d)with
      |.error e=> .error e
      |.ok p=> .ok (j,p)):=fun w j hw=>by
     have hh:=h.word w hp hw
     cases e1:QbF s w p with
     |error x=>
      obtain⟨c',x⟩:=x
      rw[e1]at hh
      intro hb
      obtain⟨z,hz,hd⟩:=hh hb
      exact⟨z,by rw[hz],hd⟩
     |ok q=>
      rw[e1]at hh
      exact⟨hh.1,.inl (by rw[hh.2])⟩
    have i1:=h.is hp (c:=91) (by rfl) (by decide)
    have i2:=h.is hp (c:=123) (by rfl) (by decide)
    have i3:=h.is hp (c:=34) (by rfl) (by decide)
    have i4:=h.is hp (c:=110) (by rfl) (by decide)
    have i5:=h.is hp (c:=116) (by rfl) (by decide)
    have i6:=h.is hp (c:=102) (by rfl) (by decide)
    by_cases c1:nx s p=91
    ·rw[if_pos c1,if_pos (i1.2 c1)]
     have hpl:p<s.length:=(List.getElem?_eq_some_iff.1 (Qhx (s:=s) (p:=p) (by rw[c1];decide))).1
     have:=il f' deep true [] (p+1) (by omega) hpl (by omega)
     rw[show p+1+d=p+d+1 by omega]at this
     cases e1:Qbs s f deep true [] (p+1)with
     |error x=>
      obtain⟨c',x⟩:=x
      rw[e1]at this
      intro hb
      obtain⟨z,hz,hd⟩:=this hb
      exact⟨z,by rw[hz],hd⟩
     |ok lq=>
      obtain⟨l,q⟩:=lq
      rw[e1]at this
      obtain⟨hq,hor⟩:=this
      refine⟨hq, ?_⟩
      rcases hor with e2|⟨hb,z,e2⟩
      ·exact .inl (by rw[e2])
      ·exact .inr ⟨hb,z,by rw[e2]⟩
    rw[if_neg c1,if_neg (fun h=>c1 (i1.1 h))]
    by_cases c2:nx s p=123
    ·rw[if_pos c2,if_pos (i2.2 c2)]
     have hpl:p<s.length:=(List.getElem?_eq_some_iff.1 (Qhx (s:=s) (p:=p) (by rw[c2];decide))).1
     have:=ik f' deep true [] [] (p+1) (by omega) hpl (by omega)
     rw[show p+1+d=p+d+1 by omega]at this
     cases e1:QaN s f deep true [] [] (p+1)with
     |error x=>
      obtain⟨c',x⟩:=x
      rw[e1]at this
      intro hb
      obtain⟨z,hz,hd⟩:=this hb
      exact⟨z,by rw[hz],hd⟩
     |ok lq=>
      obtain⟨k,l,q⟩:=lq
      rw[e1]at this
      obtain⟨hq,hor⟩:=this
      refine⟨hq, ?_⟩
      rcases hor with e2|⟨hb,z,e2⟩
      ·exact .inl (by rw[e2])
      ·exact .inr ⟨hb,z,by rw[e2]⟩
    rw[if_neg c2,if_neg (fun h=>c2 (i2.1 h))]
    by_cases c3:nx s p=34
    ·rw[if_pos c3,if_pos (i3.2 c3)]
     have:=h.text hp
     cases e1:Qbq s p with
     |error x=>
      obtain⟨c',x⟩:=x
      rw[e1]at this
      intro hb
      obtain⟨z,hz,hd⟩:=this hb
      exact⟨z,by rw[hz],hd⟩
     |ok lq=>
      obtain⟨t,q⟩:=lq
      rw[e1]at this
      exact⟨this.1,.inl (by rw[this.2])⟩
    rw[if_neg c3,if_neg (fun h=>c3 (i3.1 h))]
    by_cases c4:nx s p=110
    ·rw[if_pos c4,if_pos (i4.2 c4)];exact word _ _ (by decide)
    rw[if_neg c4,if_neg (fun h=>c4 (i4.1 h))]
    by_cases c5:nx s p=116
    ·rw[if_pos c5,if_pos (i5.2 c5)];exact word _ _ (by decide)
    rw[if_neg c5,if_neg (fun h=>c5 (i5.1 h))]
    by_cases c6:nx s p=102
    ·rw[if_pos c6,if_pos (i6.2 c6)];exact word _ _ (by decide)
    rw[if_neg c6,if_neg (fun h=>c6 (i6.1 h))]
    have:=h.number hp
    cases e1:QaZ s p with
    |error x=>
     obtain⟨c',x⟩:=x
     rw[e1]at this
     intro hb
     obtain⟨z,hz,hd⟩:=this hb
     exact⟨z,by rw[hz],hd⟩
    |ok lq=>
     obtain⟨t,q⟩:=lq
     rw[e1]at this
     exact⟨this.1,.inl this.2⟩
   by_cases hd2:12<deep+e∧Qcv (nx s' (p+d))=true
   ·rw[if_pos hd2]
    have hb:b=false:=by
     cases b with
     |false=>rfl
     |true=>
      have:=he rfl
      exact absurd ⟨by omega,hbg.1 hd2.2⟩ hd
    exact main.deep hb _
   ·rw[if_neg hd2];exact main
  ·obtain⟨f',rfl⟩:∃g,f'=g+1:=⟨f'-1,by omega⟩
   unfold Qbs
   have hm:=h.more hp first (c:=93) (by rfl)
   cases e1:QbI s first 93 p with
   |error x=>
    obtain⟨c',x⟩:=x
    rw[e1]at hm
    intro hb
    obtain⟨z,hz,hd⟩:=hm hb
    exact⟨z,by rw[hz],hd⟩
   |ok tq=>
    obtain⟨t,q⟩:=tq
    rw[e1]at hm
    cases t with
    |false=>exact⟨hm.1,.inl (by rw[hm.2.2])⟩
    |true=>
     obtain⟨m1,m2,m3,m4,m5⟩:=hm
     simp only
     by_cases hq:q<s.length
     ·rw[m4 hq]
      simp only
      have hv:=iv f' (deep+1) q (by omega) m3 (by omega)
      rw[show deep+1+e=deep+e+1 by omega]at hv
      cases e2:QaB s f (deep+1) q with
      |error x=>
       obtain⟨c',x⟩:=x
       rw[e2]at hv
       intro hb
       obtain⟨z,hz,hd⟩:=hv hb
       exact⟨z,by rw[hz],hd⟩
      |ok jz=>
       obtain⟨j,z⟩:=jz
       have hpos:=Qkg e2
       rw[e2]at hv
       obtain⟨hz,hor⟩:=hv
       have hl:=il f' deep false (acc++ [j]) z (by omega) hz (by omega)
       rcases hor with e3|⟨hb,w,e3⟩
       ·rw[e3];exact hl
       ·rw[e3];exact hl.deep hb w
     ·rw[QcK f (deep+1) (QbS (by omega))]
      intro hb
      obtain⟨z,hz,hn,hd⟩:=m5 (by omega) hb
      rw[hz]
      simp only
      rw[QcK f' _ hn]
      exact⟨z,rfl,hd⟩
  ·obtain⟨f',rfl⟩:∃g,f'=g+1:=⟨f'-1,by omega⟩
   unfold QaN
   have hm:=h.more hp first (c:=125) (by rfl)
   cases e1:QbI s first 125 p with
   |error x=>
    obtain⟨c',x⟩:=x
    rw[e1]at hm
    intro hb
    obtain⟨z,hz,hd⟩:=hm hb
    exact⟨z,by rw[hz],hd⟩
   |ok tq=>
    obtain⟨t,q⟩:=tq
    rw[e1]at hm
    cases t with
    |false=>exact⟨hm.1,.inl (by rw[hm.2.2])⟩
    |true=>
     obtain⟨m1,m2,m3,m4,m5⟩:=hm
     simp only
     by_cases hq:q<s.length
     ·rw[m4 hq]
      simp only
      have ht:=h.text m3
      cases e2:Qbq s q with
      |error x=>
       obtain⟨c',x⟩:=x
       rw[e2]at ht
       intro hb
       obtain⟨z,hz,hd⟩:=ht hb
       exact⟨z,by rw[hz],hd⟩
      |ok kz=>
       obtain⟨k,z⟩:=kz
       rw[e2]at ht
       obtain⟨hz,e3⟩:=ht
       have hqz:q≤z:=by have:=QjA e2;omega
       rw[e3]
       simp only
       by_cases hk:ks.contains k=true
       ·rw[if_pos hk,if_pos hk]
        intro _;exact⟨_,rfl,by omega⟩
       rw[if_neg hk,if_neg hk]
       have hbz:=Qgt (s:=s) hz
       have hbg:=Qft (s:=s) z
       by_cases hB:Qac s z<s.length
       ·rw[h.blanks hz hB]
        have hw:=h.want hbz (c:=58) (by rfl)
        cases e4:QbP s 58 (Qac s z)with
        |error x=>
         obtain⟨c',x⟩:=x
         rw[e4]at hw
         intro hb
         obtain⟨y,hy,hd⟩:=hw hb
         exact⟨y,by rw[hy],hd⟩
        |ok r=>
         have hr0:r=Qac s z+1:=by unfold QbP at e4;split at e4<;>simp at e4;omega
         rw[e4]at hw
         obtain⟨hr,e5⟩:=hw
         rw[e5]
         simp only
         have hbr:=Qgt (s:=s) hr
         have hbr2:=Qft (s:=s) r
         by_cases hC:Qac s r<s.length
         ·rw[h.blanks hr hC]
          have hv:=iv f' (deep+1) (Qac s r) (by omega) hbr (by omega)
          rw[show deep+1+e=deep+e+1 by omega]at hv
          cases e6:QaB s f (deep+1) (Qac s r)with
          |error x=>
           obtain⟨c',x⟩:=x
           rw[e6]at hv
           intro hb
           obtain⟨y,hy,hd⟩:=hv hb
           exact⟨y,by rw[hy],hd⟩
          |ok jy=>
           obtain⟨j,y⟩:=jy
           have hpos:=Qkg e6
           rw[e6]at hv
           obtain⟨hy,hor⟩:=hv
           have hl:=ik f' deep false (ks++ [k]) (acc++ [j]) y (by omega) hy (by omega)
           rcases hor with e7|⟨hb,w,e7⟩
           ·rw[e7];exact hl
           ·rw[e7];exact hl.deep hb w
         ·rw[QcK f (deep+1) (QbS (by omega))]
          intro hb
          obtain⟨z1,z2⟩:=h.blanks_end hb hr (by omega)
          rw[QcK f' _ z1]
          exact⟨_,rfl,z2⟩
       ·rw[QeX 58 (QbS (by omega))]
        intro hb
        obtain⟨z1,z2⟩:=h.blanks_end hb hz (by omega)
        rw[QeX 58 z1]
        exact⟨_,rfl,z2⟩
     ·rw[QmQ (QbS (by omega))]
      intro hb
      obtain⟨z,hz,hn,hd⟩:=m5 (by omega) hb
      rw[hz]
      simp only
      rw[QmQ hn]
      exact⟨z,rfl,hd⟩
end
end Go.Proofs.YtmhmjlfajlpabaaDoor
namespace Go.Proofs.YtmhmjlfajlpabaaDoor
open Go Go.Abs Go.Lib
abbrev Qer(a:Tx):Tx:=32::10::(a++ [9,13])
theorem pad_in(a:Tx):In true a (Qer a) 2 where
 get:=fun p hp=>by
  show(32::10::(a++ [9,13]))[p+2]? =_
  rw[List.getElem?_cons_succ,List.getElem?_cons_succ,List.getElem?_append_left hp]
 out:=fun c hc=>by
  have:(Qer a)[a.length+2]? =some 9:=by
   show(32::10::(a++ [9,13]))[a.length+2]? =_
   rw[List.getElem?_cons_succ,List.getElem?_cons_succ,List.getElem?_append_right (Nat.le_refl _)];simp
  rw[this]at hc
  injection hc with hc;subst hc;rfl
 len:=by simp
 low:=fun _ c hc=>by
  have:(Qer a)[a.length+2]? =some 9:=by
   show(32::10::(a++ [9,13]))[a.length+2]? =_
   rw[List.getElem?_cons_succ,List.getElem?_cons_succ,List.getElem?_append_right (Nat.le_refl _)];simp
  rw[this]at hc
  injection hc with hc;subst hc;decide
 rest:=fun _ c hc=>by
  have e:(Qer a).drop (a.length+2)= [9,13]:=by
   show(a++ [9,13]).drop a.length=_
   rw[List.drop_left]
  rw[e]at hc
  simp at hc
  rcases hc with rfl|rfl<;>rfl
theorem Qih{s:Tx}{f p:Nat}{c:UInt8}{r:Tx}(h:s.drop p=c::r)(hc:c.toNat<128):QbD s (f+1) p=QbD s f (p+1):=by
 conv=>lhs;unfold QbD
 have hp:p<s.length:=(List.getElem?_eq_some_iff.1 (QbW h)).1
 have hd:dec s p=(c.toNat,1):=by
  rw[Qh2,h]
  show decodeN (c::r).length (by' (c::r) 0) _ _ _=_
  unfold decodeN
  have:by' (c::r) 0=c.toNat:=rfl
  rw[this,if_pos hc]
 rw[if_pos hp,hd,if_neg (by intro e;injection e with e;omega)]
theorem Qn7(a:Tx):(Qaw (Qer a)= -1↔U8 a)∧(Qaw (Qer a)≠-1→2≤Qaw (Qer a))∧-1≤Qaw (Qer a):=by
 have e:Qaw (Qer a)=QbD (Qer a) ((Qer a).length-1) 2:=by
  unfold Qaw
  have hl:(Qer a).length+1=(Qer a).length-1+1+1:=by simp
  rw[hl,Qih (c:=32) (r:=10::(a++ [9,13])) (by rfl) (by decide),Qih (c:=10) (r:=a++ [9,13]) (by rfl) (by decide)]
 obtain⟨h1,h2,h3⟩:=Qb3 ((Qer a).length-1) (Qer a) 2 (by simp)
 rw[e]
 refine⟨h1.trans ?_,fun hn=>(h3 hn).1,h2⟩
 show U8 (a++ [9,13])↔U8 a
 exact⟨fun h=>(U8.split (r:= [13]) (by decide) h).1,fun h=>h.app (U8.ascii (by decide))⟩
theorem Qn6(a:Tx)(hl:a.length≤8000):match QaA a with
  |.ok j=>QaA (Qer a)= .ok j
  |.error (c,_)=>∃z,QaA (Qer a)= .error (c,z)∧2≤z:=by
 have hin:=pad_in a
 have hlen:(Qer a).length=a.length+4:=by simp
 obtain⟨b1,b2,b3⟩:=Qn7 a
 have b4:=Qci a
 have b5:=(Qb3 (a.length+1) a 0 (by omega)).2
 have hb0:Qac (Qer a) 0=Qac (Qer a) 2:=by
  unfold Qac
  show 0+((32::10::(a++ [9,13])).takeWhile Qaj).length=2+((a++ [9,13]).takeWhile Qaj).length
  rw[List.takeWhile_cons_of_pos (by rfl),List.takeWhile_cons_of_pos (by rfl)]
  simp only[List.length_cons];omega
 have dA:QaA a=if 0≤Qaw a then .error (10,(Qaw a).toNat)else match QaB a (2*a.length+3) 1 (Qac a 0)with
   |.error e=> .error e
   |.ok (j,p)=>if Qac a p<a.length then .error (16,Qac a p)else .ok (Qaf j):=by
  unfold QaA;rw[if_neg (by omega)];rfl
 have dP:QaA (Qer a)=if 0≤Qaw (Qer a)then .error (10,(Qaw (Qer a)).toNat)else match QaB (Qer a) (2*(Qer a).length+3) 1 (Qac (Qer a) 2)with
   |.error e=> .error e
   |.ok (j,p)=>if Qac (Qer a) p<(Qer a).length then .error (16,Qac (Qer a) p)else .ok (Qaf j):=by
  unfold QaA;rw[if_neg (by rw[hlen];omega),hb0];rfl
 by_cases hu:U8 a
 ·have e1:=b4.2 hu
  have e2:=b1.2 hu
  rw[e1,if_neg (by omega)]at dA
  rw[e2,if_neg (by omega)]at dP
  have hp:=Qgt (s:=a) (Nat.zero_le a.length)
  by_cases hlt:Qac a 0<a.length
  ·have hbl:=hin.blanks (Nat.zero_le _) hlt
   rw[Nat.zero_add]at hbl
   rw[hbl]at dP
   have hv:=(QeY hin (e:=0) (fun _=>rfl) (2*a.length+3)).1 (2*(Qer a).length+3) 1 (Qac a 0) (by omega) hp (by omega)
   cases ev:QaB a (2*a.length+3) 1 (Qac a 0)with
   |error x=>
    obtain⟨c,x⟩:=x
    rw[ev]at hv
    obtain⟨z,hz,hd⟩:=hv rfl
    rw[show 1+0=1 from rfl]at hz
    rw[hz]at dP
    rw[ev]at dA
    rw[dA]
    exact⟨z,dP,hd⟩
   |ok jq=>
    obtain⟨j,q⟩:=jq
    rw[ev]at hv
    obtain⟨hq,hor⟩:=hv
    rcases hor with hz|⟨hb,_⟩
    ·rw[show 1+0=1 from rfl]at hz
     rw[hz]at dP
     rw[ev]at dA
     simp only at dA dP
     by_cases hlt2:Qac a q<a.length
     ·rw[if_pos hlt2]at dA
      rw[hin.blanks hq hlt2,if_pos (by omega)]at dP
      rw[dA]
      exact⟨_,dP,by omega⟩
     ·have:=Qgt (s:=a) hq
      obtain⟨z1,_⟩:=hin.blanks_end rfl hq (by omega)
      have z2:=List.getElem?_eq_none_iff.1 z1
      rw[if_neg hlt2]at dA
      rw[if_neg (by omega)]at dP
      rw[dA]
      exact dP
    ·cases hb
  ·obtain⟨z1,z2⟩:=hin.blanks_end rfl (Nat.zero_le _) (by omega)
   rw[Nat.zero_add]at z1 z2
   rw[QcK _ 1 (QbS (by omega))]at dA
   rw[QcK _ 1 z1]at dP
   rw[dA]
   exact⟨_,dP,z2⟩
 ·have e1:Qaw a≠-1:=fun h=>hu (b4.1 h)
  have e2:Qaw (Qer a)≠-1:=fun h=>hu (b1.1 h)
  have e3:=b2 e2
  have e4:(0:Int)≤Qaw a:=by have:=b5.1;have h6:Qaw a=QbD a (a.length+1) 0:=rfl;omega
  rw[if_pos e4]at dA
  rw[if_pos (by omega)]at dP
  rw[dA]
  exact⟨_,dP,by omega⟩
theorem in_mid{pre a post:Tx}(hp:∀c r,post=c::r→Qaj c=true):In false a (pre++a++post) pre.length where
 get:=fun p hp=>by
  rw[List.append_assoc,List.getElem?_append_right (by omega),Nat.add_sub_cancel,List.getElem?_append_left hp]
 out:=fun c hc=>by
  rw[List.getElem?_append_right (by simp;omega)]at hc
  have e:a.length+pre.length-(pre++a).length=0:=by simp;omega
  rw[e]at hc
  cases post with
  |nil=>cases hc
  |cons d r=>
   simp only[List.getElem?_cons_zero,Option.some.injEq]at hc
   exact hp c r (by rw[hc])
 len:=by simp;omega
 low:=fun h=>by cases h
 rest:=fun h=>by cases h
section
variable {s:Tx}
theorem Qf7{p:Nat}{c:UInt8}{r:Tx}(h:s.drop p=c::r)(hc:Qaj c=true):Qac s p=Qac s (p+1):=by
 unfold Qac
 rw[QaR h,h,List.takeWhile_cons_of_pos hc]
 simp only[List.length_cons];omega
theorem Qlt{p:Nat}{x:Tx}{c:UInt8}{r:Tx}(h:s.drop p=x++c::r)(hx:∀d∈x,Qaj d=true)(hc:Qaj c=false):Qac s p=p+x.length:=by
 unfold Qac
 rw[h,List.takeWhile_append_of_pos hx,List.takeWhile_cons_of_neg (by simp[hc])]
 simp
theorem QoL{p:Nat}(h:∀d∈s.drop p,Qaj d=true)(hp:p≤s.length):Qac s p=s.length:=by
 unfold Qac
 rw[QgV h,List.length_drop];omega
theorem QiM{p:Nat}(hp:p≤s.length)(h:Qac s p=s.length):∀d∈s.drop p,Qaj d=true:=by
 have hw:=List.takeWhile_append_dropWhile (p:=Qaj) (l:=s.drop p)
 have hlen:=congrArg List.length hw
 rw[List.length_append,List.length_drop]at hlen
 have hr:(s.drop p).dropWhile Qaj= []:=by
  unfold Qac at h
  exact List.length_eq_zero_iff.1 (by omega)
 rw[hr,List.append_nil]at hw
 rw[←hw];exact Qij
theorem QnN{f deep p q:Nat}{j:J}(h:QaB s f deep p= .ok (j,q)):s[p]? ≠some 93:=by
 intro hc
 have h0:nx s p=93:=by unfold nx;rw[hc];rfl
 have hn:QaZ s p= .error (11,p):=by
  unfold QaZ
  simp only
  rw[if_neg (show ¬nx s p=45 by rw[h0];decide),if_neg (by rw[h0];decide)]
 cases f with
 |zero=>unfold QaB at h;cases h
 |succ f=>
  unfold QaB at h
  rw[if_neg (by rw[h0];exact fun h=>absurd h.2 (by decide)),if_neg (by rw[h0];decide),if_neg (by rw[h0];decide),if_neg (by rw[h0];decide),if_neg (by rw[h0];decide),if_neg (by rw[h0];decide),if_neg (by rw[h0];decide),hn]at h
  cases h
theorem Qji{x:J}(h:QaA s= .ok x):∃x0 q,U8 s∧Qac s 0<s.length∧QaB s (2*s.length+3) 1 (Qac s 0)= .ok (x0,q)∧q≤s.length∧Qac s q=s.length∧x=Qaf x0:=by
 unfold QaA at h
 split at h
 ·cases h
 split at h
 ·cases h
 rename_i hl hb
 have hu:U8 s:=by
  have h3:=(Qb3 (s.length+1) s 0 (by omega)).2.1
  have:Qaw s= -1:=by unfold Qaw at hb⊢;omega
  exact(Qci s).1 this
 have hv:=(Qem (s:=s) (2*s.length+3)).1 1 (Qac s 0) (QmA hu).blanks
 have hle:=Qgt (s:=s) (Nat.zero_le _)
 cases e:QaB s (2*s.length+3) 1 (Qac s 0)with
 |error e'=>rw[e]at h;cases h
 |ok jp=>
  obtain⟨j',p⟩:=jp
  rw[e]at h hv
  simp only at h
  have hlt:Qac s 0<s.length:=by
   by_cases hlt:Qac s 0<s.length
   ·exact hlt
   ·rw[QcK _ 1 (QbS (by omega))]at e;cases e
  have hp:p≤s.length:=hv.2.2.1
  have hbp:=Qgt (s:=s) hp
  split at h
  ·cases h
  ·injection h with h
   exact⟨j',p,hu,hlt,rfl,hp,by omega,h.symm⟩
end
abbrev twoB(a b:Tx):Tx:= [32,91,32]++a++ [32,44,10]++b++ [32,93,32]
theorem QnP{a b:Tx}{x y:J}(ha:QaA a= .ok x)(hb:QaA b= .ok y)(hl:a.length+b.length≤8000):
  QaA (twoB a b)= .ok (.mk 4 0 [] [] [x,y])∨∃z,QaA (twoB a b)= .error (12,z):=by
 obtain⟨x0,qa,ua,pa,va,la,ra,rfl⟩:=Qji ha
 obtain⟨y0,qb,ub,pb,vb,lb,rb,rfl⟩:=Qji hb
 obtain⟨S,hS⟩:∃S,twoB a b=S:=⟨_,rfl⟩
 have hlen:S.length=a.length+b.length+9:=by rw[←hS];simp<;>omega
 have ina:In false a S 3:=by
  have:=in_mid (pre:= [32,91,32]) (a:=a) (post:= [32,44,10]++b++ [32,93,32]) (fun c r h=>by injection h with h;rw[←h];rfl)
  rw[←hS];simpa[twoB]using this
 have inb:In false b S (a.length+6):=by
  have:=in_mid (pre:= [32,91,32]++a++ [32,44,10]) (a:=b) (post:= [32,93,32]) (fun c r h=>by injection h with h;rw[←h];rfl)
  have e:([32,91,32]++a++ [32,44,10]:Tx).length=a.length+6:=by simp<;>omega
  rw[e]at this
  rw[←hS];exact this
 have hu:U8 S:=by
  rw[←hS]
  exact((((U8.ascii (by decide)).app ua).app (U8.ascii (by decide))).app ub).app (U8.ascii (by decide))
 have d0:S.drop 0=32::(91::(32::(a++(32::(44::(10::(b++ [32,93,32]))))))):=by rw[←hS];simp[twoB]
 have d1:=QaR d0
 have d2:=QaR d1
 have d3:=QaR d2
 simp only[Nat.zero_add]at d1 d2 d3
 have d4:S.drop (3+a.length)=32::(44::(10::(b++ [32,93,32]))):=Qei d3
 have d5:=QaR d4
 have d6:=QaR d5
 have d7:=QaR d6
 have d8:S.drop (3+a.length+1+1+1+b.length)= [32,93,32]:=Qei d7
 have d9:=QaR d8
 have d10:=QaR d9
 have b0:Qac S 0=1:=by rw[Qf7 d0 (by rfl)];exact Qcl d1 (by rfl)
 have hda:S.drop (qa+3)=a.drop qa++32::(44::(10::(b++ [32,93,32]))):=by
  rw[ina.drop la,show a.length+3=3+a.length by omega,d4]
 have hdb:S.drop (qb+(a.length+6))=b.drop qb++ [32,93,32]:=by
  rw[inb.drop lb,show b.length+(a.length+6)=3+a.length+1+1+1+b.length by omega,d8]
 have ba:Qac S (qa+3)=a.length+4:=by
  have hd:S.drop (qa+3)=(a.drop qa++ [32])++44::(10::(b++ [32,93,32])):=by rw[hda];simp
  rw[Qlt hd (fun d hd=>by
   rcases List.mem_append.1 hd with h|h
   ·exact QiM la ra d h
   ·rw[List.mem_singleton.1 h];rfl) (by rfl)]
  simp;omega
 have bb:Qac S (qb+(a.length+6))=a.length+b.length+7:=by
  have hd:S.drop (qb+(a.length+6))=(b.drop qb++ [32])++93:: [32]:=by rw[hdb];simp
  rw[Qlt hd (fun d hd=>by
   rcases List.mem_append.1 hd with h|h
   ·exact QiM lb rb d h
   ·rw[List.mem_singleton.1 h];rfl) (by rfl)]
  simp;omega
 have m1:QbI S true 93 2= .ok (true,Qac a 0+3):=by
  have hb2:Qac S 2=Qac a 0+3:=by
   rw[Qf7 d2 (by rfl)]
   have:=ina.blanks (Nat.zero_le _) pa
   simpa using this
  unfold QbI
  simp only
  rw[hb2,ina.get _ pa,if_neg (QnN va)];rfl
 have m2:QbI S false 93 (qa+3)= .ok (true,Qac b 0+(a.length+6)):=by
  have g44:S[a.length+4]? =some 44:=QbW (p:=a.length+4) (by rw[show a.length+4=3+a.length+1 by omega];exact d5)
  unfold QbI
  simp only
  rw[ba,g44,if_neg (by decide)]
  simp only[Bool.false_eq_true,if_false]
  have hw:QbP S 44 (a.length+4)= .ok (a.length+5):=by unfold QbP;rw[if_pos g44]
  rw[hw]
  simp only
  have hb5:Qac S (a.length+5)=Qac b 0+(a.length+6):=by
   rw[Qf7 (p:=a.length+5) (by rw[show a.length+5=3+a.length+1+1 by omega];exact d6) (by rfl)]
   have:=inb.blanks (Nat.zero_le _) pb
   simpa[show a.length+5+1=a.length+6 by omega]using this
  rw[hb5]
 have m3:QbI S false 93 (qb+(a.length+6))= .ok (false,a.length+b.length+8):=by
  have g93:S[a.length+b.length+7]? =some 93:=QbW (p:=a.length+b.length+7) (by rw[show a.length+b.length+7=3+a.length+1+1+1+b.length+1 by omega];exact d9)
  unfold QbI
  simp only
  rw[bb,g93,if_pos rfl]
 have bend:Qac S (a.length+b.length+8)=S.length:=by
  refine QoL ?_ (by omega)
  intro d hd
  rw[show a.length+b.length+8=3+a.length+1+1+1+b.length+1+1 by omega,d10]at hd
  rw[List.mem_singleton.1 hd];rfl
 have n91:nx S 1=91:=Qfw d1
 have sa:=(QeY ina (e:=1) (fun h=>by cases h) (2*a.length+3)).1 (2*S.length+1) 1 (Qac a 0) (by omega) (by omega) (by omega)
 have sb:=(QeY inb (e:=1) (fun h=>by cases h) (2*b.length+3)).1 (2*S.length) 1 (Qac b 0) (by omega) (by omega) (by omega)
 rw[va]at sa
 rw[vb]at sb
 rw[hS]
 have dS:QaA S=match QaB S (2*S.length+3) 1 1 with
   |.error e=> .error e
   |.ok (j,p)=>if Qac S p<S.length then .error (16,Qac S p)else .ok (Qaf j):=by
  unfold QaA
  rw[if_neg (by omega),(Qci S).2 hu,if_neg (by omega),b0]
  rfl
 have hV:QaB S (2*S.length+3) 1 1=match Qbs S (2*S.length+2) 1 true [] 2 with
   |.error e=> .error e
   |.ok (l,p)=> .ok (.mk 4 0 [] [] l,p):=by
  conv=>lhs;unfold QaB
  rw[if_neg (by omega),if_pos n91]
  rfl
 have hL1:Qbs S (2*S.length+2) 1 true [] 2=match QaB S (2*S.length+1) 2 (Qac a 0+3)with
   |.error e=> .error e
   |.ok (j,q)=>Qbs S (2*S.length+1) 1 false [j] q:=by
  conv=>lhs;unfold Qbs
  rw[m1];rfl
 rw[show 1+1=2 from rfl]at sa sb
 rcases sa.2 with ea|⟨_,z,ea⟩
 ·have hL2:Qbs S (2*S.length+1) 1 false [x0] (qa+3)=match QaB S (2*S.length) 2 (Qac b 0+(a.length+6))with
    |.error e=> .error e
    |.ok (j,q)=>Qbs S (2*S.length) 1 false [x0,j] q:=by
   conv=>lhs;unfold Qbs
   rw[m2];rfl
  rcases sb.2 with eb|⟨_,z,eb⟩
  ·have hL3:Qbs S (2*S.length) 1 false [x0,y0] (qb+(a.length+6))= .ok ([x0,y0],a.length+b.length+8):=by
    rw[show 2*S.length=2*S.length-1+1 by omega]
    unfold Qbs
    rw[m3]
   left
   rw[dS,hV,hL1,ea]
   simp only
   rw[hL2,eb]
   simp only
   rw[hL3]
   simp only
   rw[bend,if_neg (Nat.lt_irrefl _),Qhp (by decide)]
   rfl
  ·right
   refine⟨z, ?_⟩
   rw[dS,hV,hL1,ea]
   simp only
   rw[hL2,eb]
 ·right
  refine⟨z, ?_⟩
  rw[dS,hV,hL1,ea]
end Go.Proofs.YtmhmjlfajlpabaaDoor
namespace Go.Proofs.YtmhmjlfajlpabaaDoor
open Go Go.Abs Go.Lib Go.RowKit
theorem Qgm{P:Program}{w:World}{t e:TypeId}(ht:P.underlying t=some (.slice e))(he:P.underlying e=some (.int .u8))(hs:P.cellsOf e=1)(hb:P.bytesOf e=1):Opens P w t fun ds=>∃s:List UInt8,ds= [.slice (s.map byteD)]∧s.length≤reachBytes:=fun fuel H enc base sp hd cs x h hw=>by
 obtain⟨ds,⟨s,rfl,_⟩,hdl⟩:=Qhu ht he hs fuel H enc base sp hd cs x h hw
 refine⟨_,⟨s,rfl, ?_⟩,hdl⟩
 rcases DataW.trod_slice ht h with⟨rfl,_⟩|⟨a,len,cap,elems,rest,n,hfu,rfl,rfl,_,_,_,hlen,_,_,_⟩
 ·have h1:DR _ w (.slice (s.map byteD)) _:=hdl.dr 0 _ _ rfl rfl
  generalize hq:s.map byteD=q at h1
  have hq2:q.length=s.length:=by rw[←hq];simp
  cases h1 with
  |slnil=>simp at hq2;omega
 ·have h1:DR _ w (.slice (s.map byteD)) _:=hdl.dr 0 _ _ rfl rfl
  have h2:elems.length≤reachBytes:=by
   have:=hw ((elems.length+rest.length)*P.bytesOf e) (by simp[DataW.weights,ht])
   rw[hb]at this;omega
  have h3:s.length=len:=by
   generalize hq:s.map byteD=q at h1
   have hq2:q.length=s.length:=by rw[←hq];simp
   cases h1 with
   |sle=>simp at hq2;omega
   |slice=>omega
  omega
theorem Qfi(K:Qaa)(n:Nat)(hn:K.length=n):∃M:AObj→Qaa,(∀o,K++ [o]=M o)∧(∀o,(M o)[n]? =some o)∧(∀o o',(M o).set n o'=M o')∧(∀o,(M o).length=n+1)∧(∀(i:Nat) (o x:AObj),K[i]? =some x→(M o)[i]? =some x):=
 ⟨fun o=>K++ [o],fun _=>rfl,fun o=>by subst hn;simp,fun o o'=>by subst hn;simp,fun o=>by simp[hn],fun i o x h=>by
   have:=(List.getElem?_eq_some_iff.1 h).1
   simp only[]
   rw[List.getElem?_append_left this,h]⟩
theorem Qoj(lim:Nat)(H:Qaa)(a b c:Tx)(ha:a≠ [])(hl:a.length+b.length+c.length≤10000000000000):Ev (QaH code Qaq) 17 lim [.d (.str a),.d (.slice (b.map byteD)),.d (.str c),.fslice [],.d (.str [])] H (bF (a++b++c)) H:=by
 refine Fn.ev ?_
 refine Qa2 (pn rfl) rfl (show code 17=some c17 from rfl) rfl ?_;simp only[List.length_cons,List.length_nil,List.cons_append,List.nil_append,simprocAttr]
 have z1:=Qai a
 have z2:=Qai b
 have z3:=Qai c
 have z4:=Qai ([]:Tx)
 have hTb:=toB_ne ha
 have m1:(a.length+b.length)*2≤70368744177664:=by omega
 have m2:(a.length+b.length+c.length)*2≤70368744177664:=by omega
 have z6:Qa9 1 (a.map byteD++b.map byteD)=true:=by rw[←List.map_append];exact Qai _
 have z7:Qa9 1 (a.map byteD++b.map byteD++c.map byteD)=true:=by rw[←List.map_append,←List.map_append];exact Qai _
 refine w_r (j_ hTb (j_ z1 (j_ z2 (j_ z3 (j_ z4 (j_ z6 (j_ z7 (j_ m1 (j_ m2 (@List.length_map.{0,0})))))))))) ?_
 exact Qad (vs:= [bF (a++b++c)]) (by simp only[Qcc,zz,simprocAttr];simp[bF]) rfl ⟨rfl,rfl⟩
theorem QqC(s:Tx):∃(x:J) (c n:Nat),QbC (QaA s)= .tuple [jA x,intD c,intD n]∧(QaA s= .ok x∧c=0∨QaA s= .error (c,n)∧((c:Int) !=0)=true∧((c:Int)==0)=false):=by
 cases h:QaA s with
 |ok j=>exact⟨j,0,0,by simp only[QbC];rw[jd];rfl,.inl ⟨rfl,rfl⟩⟩
 |error e=>
  obtain⟨c,n⟩:=e
  have he:=(Qjj h).2
  simp only at he
  refine⟨J.zero,c,n,by simp only[QbC];rw[jd],.inr ⟨rfl, ?_, ?_⟩⟩<;>simp<;>omega
theorem QoK(lim:Nat)(H:Qaa)(a b:Tx)(ma:a.length≤reachBytes)(mb:b.length≤reachBytes):Ev (QaH code Qaq) 5 lim [.d (.slice (a.map byteD)),.d (.slice (b.map byteD))] H (boolD true) H:=by
 have hr:reachBytes=140737488351232:=by decide
 refine Fn.ev ?_
 refine Qa2 (pn rfl) rfl (show code 5=some c5 from rfl) rfl ?_;simp only[List.length_cons,List.length_nil,List.cons_append,List.nil_append,simprocAttr]
 have hsum:Qba .add .i64 (a.length:Int) (b.length:Int)=some (.int .i64 ((a.length:Int)+(b.length:Int))):=by
  simp only[Qba]
  rw[w64 (by omega) (by omega)]
 by_cases hl:8000<a.length+b.length
 ·have f1:((a.length:Int)+(b.length:Int)>8000)=True:=eq_true (by omega)
  refine w_r (j_ f1 (j_ hsum (@List.length_map.{0,0}))) ?_
  exact Qad (vs:= [boolD true]) rfl rfl ⟨rfl,rfl⟩
 have f1:((a.length:Int)+(b.length:Int)>8000)=False:=eq_false (by omega)
 refine w_r (j_ f1 (j_ hsum (@List.length_map.{0,0}))) ?_
 obtain⟨x,c,n,hx,hcx⟩:=QqC a
 obtain⟨y,d,m,hy,hcy⟩:=QqC b
 have pd:=Qn6 a (by omega)
 have td:=fun x y hda hdb=>QnP (a:=a) (b:=b) (x:=x) (y:=y) hda hdb (by omega)
 have j1:=fun K=>Qoj H.length K [32,10] a [9,13] (by simp) (by simp;omega)
 have j2:=fun K=>Qp7 H.length K [32,91,32] a [32,44,10] b [32,93,32] (by simp) (by simp;omega)
 rw[show([32,10]++a++ [9,13]:Tx)=Qer a from by simp[Qer]]at j1
 rw[show([32,91,32]++a++ [32,44,10]++b++ [32,93,32]:Tx)=twoB a b from by simp[twoB]]at j2
 generalize Qer a=P at*
 generalize twoB a b=T at*
 obtain⟨x',z,hz,hcz⟩:∃(x':J) (z:Nat),QbC (QaA P)= .tuple [jA x',intD c,intD z]∧(QaA a= .ok x∧c=0∧x'=x∨((c:Int) !=0)=true∧((c:Int)==0)=false∧2≤z):=by
  rcases hcx with⟨h,rfl⟩|⟨h,h1,h2⟩
  ·rw[h]at pd
   simp only at pd
   refine⟨x,0, ?_,.inl ⟨h,rfl,rfl⟩⟩
   rw[pd];simp only[QbC];rw[jd];rfl
  ·rw[h]at pd
   simp only at pd
   obtain⟨z,h3,h4⟩:=pd
   refine⟨J.zero,z, ?_,.inr ⟨h1,h2,h4⟩⟩
   rw[h3];simp only[QbC];rw[jd]
 obtain⟨M1,k1,g1,s1,l1,t1⟩:=Qfi H H.length rfl
 obtain⟨M2,k2,g2,s2,l2,t2⟩:=Qfi (M1 (jO x)) (H.length+1) (l1 _)
 obtain⟨M3,k3,g3,s3,l3,t3⟩:=Qfi (M2 (jO y)) (H.length+2) (l2 _)
 have u1:∀o,(M3 o)[H.length]? =some (.cells (jC x)):=fun o=>t3 _ o _ (t2 _ _ _ (g1 _))
 have u2:∀o,(M3 o)[H.length+1]? =some (.cells (jC y)):=fun o=>t3 _ o _ (g2 _)
 have a1:=QcU H.length H a
 have a2:=QcU H.length (M1 (jO x)) b
 have a3:=QcU H.length (M2 (jO y)) P
 rw[hx]at a1
 rw[hy]at a2
 rw[hz]at a3
 have b1:=j1 (M2 (jO y))
 have h1:H.length≤H.length+1:=by omega
 have h2:H.length≤H.length+2:=by omega
 have h3:H.length≤H.length+3:=by omega
 have a8:=QcC H.length (M3 (jO x'))
 have fs:((c:Int) !=(c:Int))=false:=by simp
 refine w_1 a1 (j_ k1 (j_ g1 s1)) ?_
 refine Qlz ?_
 refine w_1 a2 (j_ k2 (j_ g2 (j_ s2 (j_ l1 h1)))) ?_
 refine Qlz ?_
 refine w_2 b1 a3 (j_ k3 (j_ g3 (j_ s3 (j_ l2 h2)))) ?_
 rcases hcz with⟨hda,rfl,rfl⟩|⟨f2,f3,f4⟩
 ·have hwx:=(Qh0 hda).2.2
  have a4:=Qe4 H.length (M3 (jO x')) (a:=x') (by omega)
  rw[jd]at a4
  refine Qlz ?_
  refine w_1 a4 (j_ u1 g3) ?_
  rcases hcy with⟨hdb,rfl⟩|⟨hdb,f5,f6⟩
  ·refine w_r trivial ?_
   have hwy:=(Qh0 hdb).2.2
   have b2:=j2 (M3 (jO x'))
   obtain⟨M4,k4,g4,s4,l4,t4⟩:=Qfi (M3 (jO x')) (H.length+3) (l3 _)
   have u3:∀o,(M4 o)[H.length]? =some (.cells (jC x')):=fun o=>t4 _ o _ (u1 _)
   have u4:∀o,(M4 o)[H.length+1]? =some (.cells (jC y)):=fun o=>t4 _ o _ (u2 _)
   have a5:=QcU H.length (M3 (jO x')) T
   rcases td _ _ hda hdb with e|⟨q,e⟩
   ·rw[e]at a5
    simp only[QbC]at a5
    have hL:(J.mk 4 0 [] [] [x',y]).d=D.agg [.int .i64 4,.int .i64 0,.str [],.slice [],.slice [.agg [.int .i64 x'.k,.int .i64 x'.n,.str x'.t,sD x'.ks,jsD x'.l],.agg [.int .i64 y.k,.int .i64 y.n,.str y.t,sD y.ks,jsD y.l]]]:=by
     rw[jd]
     show D.agg [.int .i64 4,.int .i64 0,.str [],.slice [],.slice [x'.d,y.d]]=_
     rw[jd,jd]
    rw[hL]at a5
    obtain⟨O,hO⟩:∃O,AObj.cells [.d (.int .i64 4),.d (.int .i64 0),.d (.str []),.d (.slice []),.d (.slice [.agg [.int .i64 x'.k,.int .i64 x'.n,.str x'.t,sD x'.ks,jsD x'.l],.agg [.int .i64 y.k,.int .i64 y.n,.str y.t,sD y.ks,jsD y.l]])]=O:=⟨_,rfl⟩
    have g5:(M4 O)[H.length+3]? =some (AObj.cells [.d (.int .i64 4),.d (.int .i64 0),.d (.str []),.d (.slice []),.d (.slice [.agg [.int .i64 x'.k,.int .i64 x'.n,.str x'.t,sD x'.ks,jsD x'.l],.agg [.int .i64 y.k,.int .i64 y.n,.str y.t,sD y.ks,jsD y.l]])]):=by rw[g4,hO]
    have a6:=Qe4 H.length (M4 O) (a:=x') (by omega)
    have a7:=Qe4 H.length (M4 O) (a:=y) (by omega)
    have a9:=QcC H.length (M4 O)
    rw[jd]at a6 a7
    refine w_2 b2 a5 (j_ k4 (j_ g4 (j_ s4 (j_ l3 (j_ h3 hO))))) ?_
    refine w_r trivial ?_
    refine w_3 a6 a7 a9 (j_ g5 (j_ u3 u4)) ?_
    refine w_r trivial ?_
    exact Qad (vs:= [boolD true]) rfl rfl ⟨rfl,rfl⟩
   ·rw[e]at a5
    simp only[QbC]at a5
    rw[jd]at a5
    have a9:=QcC H.length (M4 (jO J.zero))
    refine w_2 b2 a5 (j_ k4 (j_ g4 (j_ s4 (j_ l3 h3)))) ?_
    refine w_r trivial ?_
    refine w_1 a9 trivial ?_
    refine w_r trivial ?_
    exact Qad (vs:= [boolD true]) rfl rfl ⟨rfl,rfl⟩
  ·refine w_r f5 ?_
   refine w_1 a8 trivial ?_
   refine w_r trivial ?_
   exact Qad (vs:= [boolD true]) rfl rfl ⟨rfl,rfl⟩
 ·have f7:((z:Int)<2)=False:=eq_false (by omega)
  refine Qlz ?_
  (apply W_rg;focus(intro k;simp(maxSteps:=100000000) only[zz,zd,simprocAttr,fs,f2,f3,f7];(first|done|with_reducible exact rfl)))<;>(try simp only[zp,simprocAttr])
  refine w_r f2 ?_
  refine w_1 a8 trivial ?_
  refine w_r trivial ?_
  exact Qad (vs:= [boolD true]) rfl rfl ⟨rfl,rfl⟩
end Go.Proofs.YtmhmjlfajlpabaaDoor
