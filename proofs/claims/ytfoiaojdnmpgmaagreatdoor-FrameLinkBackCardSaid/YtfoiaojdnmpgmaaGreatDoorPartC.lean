/- Part 3. -/
import Derived.Test.YtfoiaojdnmpgmaaGreatDoorPartB
import Derived.Deep.Slices
import Derived.SizedLaws
import Derived.IntWalk
set_option linter.all false
namespace Go.Abs
open Go.RowKit
variable [Tab]
section
variable (E:Qa0) (lim:Nat)
def Qbx(cs:List COper)(st:St)(k:Nat):St:=(runOps E lim (cs.take k) st).getD st
def Qgx(c:COper)(s:St):Option AV:=
 match wanted s.T c.guard with
 |some true=>(aop E lim s.H (evx s.T c.cons) c.op).map (·.1)
 |_=>none
def Ql3(c:COper)(v:Option AV):SOp:=
 match v with
 |some v=>⟨c.dst,c.cons,v⟩
 |none=>⟨c.dst,[],.tuple []⟩
def QbE(cs:List COper)(st:St)(i:Nat):Option AV:=(cs[i]?).bind fun c=>Qgx E lim c (Qbx E lim cs st i)
def QaB(cs:List COper)(st:St)(i:Nat):SOp:=
 match cs[i]? with
 |some c=>Ql3 c (QbE E lim cs st i)
 |none=>⟨none,[],.undef⟩
end
section
variable {E:Qa0} {lim:Nat} {cs:List COper} {st st':St}
theorem QdV:∀(l1 l2:List COper) (s:St),runOps E lim (l1++l2) s=(runOps E lim l1 s).bind (runOps E lim l2):=by
 intro l1
 induction l1 with
 |nil=>intro l2 s;rfl
 |cons c l1 ih=>
  intro l2 s
  simp only[List.cons_append,runOps]
  cases stepOp E lim c s with
  |none=>rfl
  |some s1=>exact ih l2 s1
theorem Qfj(h:runOps E lim cs st=some st')(k:Nat):runOps E lim (cs.take k) st=some (Qbx E lim cs st k):=by
 unfold Qbx
 cases e:runOps E lim (cs.take k) st with
 |some s=>rfl
 |none=>
  rw[←List.take_append_drop k cs,QdV,e]at h
  cases h
theorem QfC:Qbx E lim cs st 0=st:=rfl
theorem QdU(h:runOps E lim cs st=some st'){n:Nat}(hn:cs.length≤n):Qbx E lim cs st n=st':=by
 have:=Qfj h n
 rw[List.take_of_length_le hn,h]at this
 injection this with this;exact this.symm
theorem QdT(h:runOps E lim cs st=some st'){i:Nat}{c:COper}(hc:cs[i]? =some c):stepOp E lim c (Qbx E lim cs st i)=some (Qbx E lim cs st (i+1)):=by
 have h1:=Qfj h (i+1)
 rw[List.take_add_one,hc,QdV,Qfj h i]at h1
 simp only[Option.toList_some,Option.bind_some,runOps]at h1
 split at h1
 ·rename_i s1 h2;rw[h2];exact h1
 ·cases h1
theorem Qfh{c:COper}{s s':St}(h:stepOp E lim c s=some s'):s'.T=(Ql3 c (Qgx E lim c s)).run s.T∧
  (∀v,Qgx E lim c s=some v→aop E lim s.H (evx s.T c.cons) c.op=some (v,s'.H)∧wanted s.T c.guard=some true)∧(Qgx E lim c s=none→s'.H=s.H∧wanted s.T c.guard=some false):=by
 unfold stepOp at h
 unfold Qgx
 split at h
 ·rename_i hw
  simp only[hw]
  split at h
  ·rename_i v H' he
   simp only[Option.some.injEq]at h;subst h
   simp only[he,Option.map_some]
   exact⟨rfl,fun v' hv=>by injection hv with hv;subst hv;exact⟨rfl,trivial⟩,fun hv=>by cases hv⟩
  ·simp at h
 ·rename_i hw
  simp only[hw]
  simp only[Option.some.injEq]at h;subst h
  refine⟨rfl, ?_, ?_⟩
  ·intro v hv;cases hv
  ·intro _;exact⟨rfl,trivial⟩
 ·simp at h
theorem Qh2(h:runOps E lim cs st=some st'):∀(i:Nat),i≤cs.length→(Qbx E lim cs st i).T=Qau (QaB E lim cs st) (List.range i) st.T:=by
 intro i
 induction i with
 |zero=>intro _;rfl
 |succ i ih=>
  intro hi
  have hc:cs[i]? =some cs[i]:=List.getElem?_eq_getElem (by omega)
  have h1:=(Qfh (QdT h hc)).1
  rw[h1,ih (by omega),List.range_succ]
  simp only[Qau,List.foldl_append,List.foldl_cons,List.foldl_nil]
  simp only[QaB,QbE,hc,Option.bind_some]
def Qi4(E:Qa0)(lim:Nat)(cs:List COper)(st:St)(i:Nat)(h h':Qab):Prop:=
 ∀c,cs[i]? =some c→(QbE E lim cs st i=none→h'=h)∧∀v,QbE E lim cs st i=some v→aop E lim h (evx (Qbx E lim cs st i).T c.cons) c.op=some (v,h')
theorem QgD{T T':List AV}{t:Nat}{b:Bool}(h:(T[t]?).map AV.unf=(T'[t]?).map AV.unf):wanted T (some (t,b))=wanted T' (some (t,b)):=by
 have key:∀T:List AV,wanted T (some (t,b))=match((T[t]?).map AV.unf).getD .undef with
  |.d (.bool c)=>some (c==b)
  |.tuple []=>some false
  |_=>none:=by
  intro T
  unfold wanted
  have e:T.getD t .undef=(T[t]?).getD .undef:=by simp[List.getD]
  simp only[e]
  cases T[t]? with
  |none=>rfl
  |some x=>cases x<;>rfl
 rw[key,key,h]
theorem Qd9{T T':List AV}{cons:List Nat}{x:Opd}(h1:∀t,t∈cons→T[t]? =T'[t]?)(h2:∀t∈x.slots,(T[t]?).map AV.unf=(T'[t]?).map AV.unf):evx T cons x=evx T' cons x:=by
 cases x with
 |c v=>rfl
 |t n=>
  have key:∀T:List AV,(T.getD n .undef).unf=((T[n]?).map AV.unf).getD .undef:=fun T=>by
   have e:T.getD n .undef=(T[n]?).getD .undef:=by simp[List.getD]
   rw[e]
   cases T[n]? <;>rfl
  simp only[evx]
  split
  ·rename_i hc
   simp only[List.getD,h1 n (by simpa using hc)]
  ·rw[key,key,h2 n (by simp[Opd.slots])]
theorem QgH(h:runOps E lim cs st=some st'){i:Nat}{c:COper}(hc:cs[i]? =some c){T:List AV}{hp hp':Qab}(h1:∀t,t∈c.cons→T[t]? =(Qbx E lim cs st i).T[t]?)
  (h2:∀t∈c.reads,(T[t]?).map AV.unf=((Qbx E lim cs st i).T[t]?).map AV.unf)(hs:Qi4 E lim cs st i hp hp'):stepOp E lim c ⟨T,hp⟩=some ⟨(QaB E lim cs st i).run T,hp'⟩:=by
 have hst:=Qfh (QdT h hc)
 have hw:wanted T c.guard=wanted (Qbx E lim cs st i).T c.guard:=by
  cases hg:c.guard with
  |none=>rfl
  |some p=>exact QgD (h2 p.1 (by simp[COper.reads,hg]))
 have hev:∀x∈c.op.opds,evx T c.cons x=evx (Qbx E lim cs st i).T c.cons x:=fun x hx=>Qd9 h1 fun t ht=>h2 t (by
  simp only[COper.reads,List.mem_append,List.mem_flatMap]
  exact .inl ⟨x,hx,ht⟩)
 have ha:=Qdn (E:=E) (lim:=lim) (H:=hp) hev
 obtain⟨q1,q2⟩:=hs c hc
 have hv:QbE E lim cs st i=Qgx E lim c (Qbx E lim cs st i):=by simp[QbE,hc]
 have hso:QaB E lim cs st i=Ql3 c (QbE E lim cs st i):=by simp[QaB,hc]
 rw[hso]
 unfold stepOp
 cases hval:QbE E lim cs st i with
 |none=>
  have:=(hst.2.2 (by rw[←hv];exact hval)).2
  simp only[hw,this,q1 hval]
  rfl
 |some v=>
  have:=(hst.2.1 v (by rw[←hv];exact hval)).2
  simp only[hw,this,ha,q2 v hval]
  rfl
end
end Go.Abs
namespace Go.Abs
open Go.RowKit
variable [Tab] [Dfr]
theorem sh1{c d:COper}{t:Nat}(h1:c.dst=some t)(h2:t∈d.reads):sharesSlot c d=true:=by
 unfold sharesSlot;rw[h1];simp only[Bool.or_eq_true];exact .inl (.inl (.inl (by simpa using h2)))
theorem sh2{c d:COper}{t:Nat}(h1:d.dst=some t)(h2:t∈c.reads):sharesSlot c d=true:=by
 unfold sharesSlot;rw[h1];simp only[Bool.or_eq_true];exact .inl (.inl (.inr (by simpa using h2)))
theorem sh3{c d:COper}{t:Nat}(h1:c.dst=some t)(h2:d.dst=some t):sharesSlot c d=true:=by
 unfold sharesSlot;rw[h1,h2];simp
theorem sh4{c d:COper}{t:Nat}(h1:t∈c.cons)(h2:t∈d.cons):sharesSlot c d=true:=by
 unfold sharesSlot
 have:(c.cons.any fun t=>d.cons.contains t)=true:=by
  rw[List.any_eq_true];exact⟨t,h1,by simpa using h2⟩
 rw[this];simp
structure Static (P:Program) (tk:FuncId→Nat→Bool) (ops:Array Oper) (cs:List COper):Prop where
 len:cs.length=ops.size
 comp:∀(i:Nat) o c,ops[i]? =some o→cs[i]? =some c→Qal P tk ops.toList o=some c
 cons:∀(i:Nat) c,cs[i]? =some c→∀t∈c.cons,t∈c.reads
 share:∀(i j:Nat) c d,i<j→cs[i]? =some c→cs[j]? =some d→sharesSlot c d=true→Anc ops i j
 back:∀(i:Nat) o,ops[i]? =some o→∀e∈o.after,Region.binds .any e=true→e.on<i
structure Game (E:Qa0) (lim:Nat) (ops:Array Oper) (cs:List COper) (st st':St) (HG:List Nat→Qab→Prop):Prop where
 start:HG [] st.H
 step:∀l h i,HG l h→i<cs.length→i∉l→(∀j,Anc ops j i→j∈l)→(∀k∈l,¬Anc ops i k)→∃h',Qi4 E lim cs st i h h'∧HG (l++ [i]) h'
 fin:∀l h,HG l h→(∀i,i<cs.length→i∈l)→h=st'.H
theorem QiN{p q:Nat→Bool}:∀(l:List Nat),(∀x,q x=true→p x=true)→(l.filter q).length≤(l.filter p).length
 | [],_=>Nat.le_refl _
 |x::l,h=>by
  have ih:=QiN l h
  cases hq:q x with
  |true=>rw[List.filter_cons_of_pos hq,List.filter_cons_of_pos (h x hq)];simp;exact ih
  |false=>
   rw[List.filter_cons_of_neg (by simp[hq])]
   cases hp:p x with
   |true=>rw[List.filter_cons_of_pos hp];simp;omega
   |false=>rw[List.filter_cons_of_neg (by simp[hp])];exact ih
theorem Qdi{p q:Nat→Bool}:∀(l:List Nat),(∀x,q x=true→p x=true)→∀x∈l,p x=true→q x=false→(l.filter q).length<(l.filter p).length
 | [],_,x,hx,_,_=>by simp at hx
 |y::l,h,x,hx,hp,hq=>by
  rw[List.mem_cons]at hx
  rcases hx with rfl|hx
  ·rw[List.filter_cons_of_neg (by simp[hq]),List.filter_cons_of_pos hp]
   have:=QiN l h
   simp;omega
  ·have ih:=Qdi l h x hx hp hq
   cases hq':q y with
   |true=>rw[List.filter_cons_of_pos hq',List.filter_cons_of_pos (h y hq')];simp;exact ih
   |false=>
    rw[List.filter_cons_of_neg (by simp[hq'])]
    cases hp':p y with
    |true=>rw[List.filter_cons_of_pos hp'];simp;omega
    |false=>rw[List.filter_cons_of_neg (by simp[hp'])];exact ih
section
variable {P:Program} {E:Qa0} {tk:FuncId→Nat→Bool} {ops:Array Oper} {cs:List COper} {lim:Nat} {st st':St}
theorem QdQ{i t:Nat}(h:(QaB E lim cs st i).touches t=true):∃c,cs[i]? =some c∧(c.dst=some t∨t∈c.cons):=by
 unfold QaB at h
 split at h
 ·rename_i c hc
  refine⟨c,hc, ?_⟩
  unfold Ql3 at h
  split at h<;>simp only[SOp.touches,Bool.or_eq_true,beq_iff_eq]at h
  ·exact h.imp id (by simp)
  ·exact h.imp id (by simp)
 ·simp[SOp.touches]at h
theorem Qfy(hS:Static P tk ops cs){i j t:Nat}(hi:(QaB E lim cs st i).touches t=true){d:COper}(hd:cs[j]? =some d)(ht:d.dst=some t∨t∈d.cons):
  (i<j→Anc ops i j)∧(j<i→Anc ops j i):=by
 obtain⟨c,hc,h⟩:=QdQ hi
 have both:sharesSlot c d=true∧sharesSlot d c=true:=by
  rcases h with h|h<;>rcases ht with ht|ht
  ·exact⟨sh3 h ht,sh3 ht h⟩
  ·exact⟨sh1 h (hS.cons j d hd t ht),sh2 h (hS.cons j d hd t ht)⟩
  ·exact⟨sh2 ht (hS.cons i c hc t h),sh1 ht (hS.cons i c hc t h)⟩
  ·exact⟨sh4 h ht,sh4 ht h⟩
 exact⟨fun hij=>hS.share i j c d hij hc hd both.1,fun hji=>hS.share j i d c hji hd hc both.2⟩
theorem QhQ{i t:Nat}(h:(QaB E lim cs st i).bare.touches t=true):∃c,cs[i]? =some c∧c.dst=some t:=by
 simp only[SOp.bare,SOp.touches,Bool.or_eq_true,beq_iff_eq]at h
 have h:=h.resolve_right (by simp)
 unfold QaB at h
 split at h
 ·rename_i c hc
  refine⟨c,hc, ?_⟩
  unfold Ql3 at h
  split at h<;>exact h
 ·simp at h
theorem Qk9(hS:Static P tk ops cs){i j t:Nat}(hi:(QaB E lim cs st i).bare.touches t=true){d:COper}(hd:cs[j]? =some d)(ht:t∈d.reads):
  (i<j→Anc ops i j)∧(j<i→Anc ops j i):=by
 obtain⟨c,hc,h⟩:=QhQ hi
 exact⟨fun hij=>hS.share i j c d hij hc hd (sh1 h ht),fun hji=>hS.share j i d c hji hd hc (sh2 h ht)⟩
theorem QbM(R:Nat→Nat→Prop)(h:∀i j,i<j→R i j)(n:Nat):(List.range n).Pairwise R:=List.Pairwise.imp (fun{a b} hab=>h a b hab) List.pairwise_lt_range
theorem agree(hS:Static P tk ops cs){l:List Nat}{i:Nat}{c:COper}(hc:cs[i]? =some c)(hi:i∉l)(hanc:∀j,Anc ops j i→j∈l)(hno:∀k∈l,¬Anc ops i k)
  (hl:∀t,l.Pairwise fun i j=>(QaB E lim cs st i).touches t=true→(QaB E lim cs st j).touches t=true→i<j)(T:List AV):
  (∀t,t∈c.cons→(Qau (QaB E lim cs st) l T)[t]? =(Qau (QaB E lim cs st) (List.range i) T)[t]?)∧
  ∀t∈c.reads,((Qau (QaB E lim cs st) l T)[t]?).map AV.unf=((Qau (QaB E lim cs st) (List.range i) T)[t]?).map AV.unf:=by
 constructor
 ·intro t ht
  refine Qc3 (hl t) (QbM _ (fun i j h _ _=>h) i) (fun k hk=> ?_) T
  obtain⟨h1,h2⟩:=Qfy hS hk hc (.inr ht)
  rw[List.mem_range]
  constructor
  ·intro hkl
   rcases Nat.lt_trichotomy k i with h|h|h
   ·exact h
   ·subst h;exact absurd hkl hi
   ·exact absurd (h2 h) (hno k hkl)
  ·intro h;exact hanc k (h1 h)
 ·intro t ht
  rw[Qdq _ t l T T rfl,Qdq _ t (List.range i) T T rfl]
  refine congrArg _ (Qc3 ?_ (QbM _ (fun i j h _ _=>h) i) (fun k hk=> ?_) T)
  ·refine List.Pairwise.imp ?_ (hl t)
   intro a b hab ha hb
   have up:∀k,(QaB E lim cs st k).bare.touches t=true→(QaB E lim cs st k).touches t=true:=fun k hk=>by
    simp only[SOp.bare,SOp.touches,Bool.or_eq_true,beq_iff_eq]at hk⊢
    exact .inl (hk.resolve_right (by simp))
   exact hab (up a ha) (up b hb)
  ·obtain⟨h1,h2⟩:=Qk9 hS hk hc ht
   rw[List.mem_range]
   constructor
   ·intro hkl
    rcases Nat.lt_trichotomy k i with h|h|h
    ·exact h
    ·subst h;exact absurd hkl hi
    ·exact absurd (h2 h) (hno k hkl)
   ·intro h;exact hanc k (h1 h)
structure Play (ops:Array Oper) (E:Qa0) (lim:Nat) (cs:List COper) (st:St) (listed:Array Bool) (l:List Nat):Prop where
 size:listed.size=ops.size
 mem:∀i,i<ops.size→(listed.getD i true=true↔i∈l)
 closed:∀k o,k∈l→ops[k]? =some o→∀e∈o.after,Region.binds .any e=true→e.on∈l
 order:∀t,l.Pairwise fun i j=>(QaB E lim cs st i).touches t=true→(QaB E lim cs st j).touches t=true→i<j
theorem Qmp(hS:Static P tk ops cs){listed:Array Bool}{l:List Nat}(h:Play ops E lim cs st listed l){i:Nat}(hi:i<ops.size)(hil:i∉l)(hanc:∀j,Anc ops j i→j∈l)(hno:∀k∈l,¬Anc ops i k):
  Play ops E lim cs st (listed.setIfInBounds i true) (l++ [i]) where
 size:=by simp[h.size]
 mem j hj:=by
  rw[List.mem_append,List.mem_singleton]
  by_cases hij:i=j
  ·subst hij
   have:i<listed.size:=by rw[h.size];exact hi
   simp[this]
  ·rw[getD_set_ne true hij,h.mem j hj]
   exact⟨.inl,fun h=>h.resolve_right (Ne.symm hij)⟩
 closed k o hk ho e he hb:=by
  rw[List.mem_append]at hk⊢
  rcases hk with hk|hk
  ·exact .inl (h.closed k o hk ho e he hb)
  ·rw[List.mem_singleton]at hk;subst hk
   exact .inl (hanc _ (.edge _ o e ho he hb))
 order t:=by
  rw[List.pairwise_append]
  refine⟨h.order t,by simp,fun k hk j hj=> ?_⟩
  rw[List.mem_singleton]at hj;subst hj
  intro hkt hjt
  obtain⟨c,hc,ht⟩:=QdQ hjt
  obtain⟨_,h2⟩:=Qfy hS hkt hc ht
  rcases Nat.lt_trichotomy k j with h|h|h
  ·exact h
  ·subst h;exact absurd hk hil
  ·exact absurd (h2 h) (hno k hk)
theorem play_end(hS:Static P tk ops cs)(hr:runOps E lim cs st=some st'){listed:Array Bool}{l:List Nat}(h:Play ops E lim cs st listed l)(hall:∀i,i<ops.size→i∈l)(hlt:∀i∈l,i<ops.size):
  Qau (QaB E lim cs st) l st.T=st'.T:=by
 have e:=Qh2 hr cs.length (Nat.le_refl _)
 rw[QdU hr (Nat.le_refl _)]at e
 rw[e]
 apply List.ext_getElem?
 intro t
 refine Qc3 (h.order t) (QbM _ (fun i j h _ _=>h) _) (fun k _=> ?_) st.T
 rw[List.mem_range,hS.len]
 exact⟨hlt k,hall k⟩
theorem Qlu(hE:Qcn P E)(hS:Static P tk ops cs)(hr:runOps E lim cs st=some st'){HG:List Nat→Qab→Prop}(hG:Game E lim ops cs st st' HG){Q:Exit→Act→World→Prop}{g0:Gh}{w0:World}
  (hQ:∀g a w,WF g0 w0 g w→Inv g st' a w→Q .normal a w):∀(fuel:Nat) (listed:Array Bool) (l:List Nat) (h:Qab) (g:Gh) (a:Act) (w:World),
  ((List.range ops.size).filter fun i=> !l.contains i).length≤fuel→Play ops E lim cs st listed l→(∀i∈l,i<ops.size)→HG l h→WF g0 w0 g w→Inv g ⟨Qau (QaB E lim cs st) l st.T,h⟩ a w→lim≤h.length→wpAny P .any ops Q fuel listed a w:=by
 have done:∀ {listed:Array Bool} {l:List Nat} {h:Qab} {g:Gh} {a:Act} {w:World},Play ops E lim cs st listed l→(∀i∈l,i<ops.size)→HG l h→WF g0 w0 g w→Inv g ⟨Qau (QaB E lim cs st) l st.T,h⟩ a w→(∀i,i<ops.size→i∈l)→Q .normal a w:=by
  intro listed l h g a w hp hlt hg hw hi hall
  have e1:=play_end hS hr hp hall hlt
  have e2:=hG.fin l h hg (fun i hi=>hall i (by rw[←hS.len];exact hi))
  rw[e1,e2]at hi
  exact hQ g a w hw hi
 intro fuel
 induction fuel with
 |zero=>
  intro listed l h g a w hf hp hlt hg hw hi hlim
  have hall:∀i,i<ops.size→i∈l:=by
   intro i hi
   have e:(List.range ops.size).filter (fun i=> !l.contains i)= []:=List.eq_nil_of_length_eq_zero (by omega)
   rw[List.filter_eq_nil_iff]at e
   have:=e i (List.mem_range.2 hi)
   simpa using this
  refine⟨?_,done hp hlt hg hw hi hall⟩
  rw[List.eq_nil_iff_forall_not_mem]
  intro j hj
  rw[mem_ready]at hj
  obtain⟨h1,o,ho,_⟩:=hj
  have hjs:j<ops.size:=(Array.getElem?_eq_some_iff.1 ho).1
  have:=(hp.mem j hjs).2 (hall j hjs)
  rw[h1]at this;cases this
 |succ fuel ih=>
  intro listed l h g a w hf hp hlt hg hw hi hlim
  refine⟨fun hr0=> ?_,fun i hir=> ?_⟩
  ·refine done hp hlt hg hw hi fun i=> ?_
   induction i using Nat.strongRecOn with
   |_ i ihi=>
    intro his
    cases hli:listed.getD i true with
    |true=>exact(hp.mem i his).1 hli
    |false=>
     have:i∈Region.ready .any ops listed:=by
      rw[mem_ready]
      refine⟨hli,ops[i],Array.getElem?_eq_getElem his,fun e he hb=> ?_⟩
      have hlt':=hS.back i _ (Array.getElem?_eq_getElem his) e he hb
      have hes:e.on<ops.size:=by omega
      have hm:=(hp.mem e.on hes).2 (ihi e.on hlt' hes)
      have hsz:e.on<listed.size:=by rw[hp.size];exact hes
      simp only[Array.getD,hsz,dif_pos]at hm⊢
      exact hm
     rw[hr0]at this;cases this
  ·rw[mem_ready]at hir
   obtain⟨hli,o,ho,hedge⟩:=hir
   have his:i<ops.size:=(Array.getElem?_eq_some_iff.1 ho).1
   have hil:i∉l:=fun hm=>by have:=(hp.mem i his).2 hm;rw[hli]at this;cases this
   have hedge':∀o',ops[i]? =some o'→∀e∈o'.after,Region.binds .any e=true→e.on∈l:=by
    intro o' ho' e he hb
    rw[ho]at ho';injection ho' with ho';subst ho'
    have h1:=hedge e he hb
    have hes:e.on<ops.size:=by have:=hS.back i o ho e he hb;omega
    have hsz:e.on<listed.size:=by rw[hp.size];exact hes
    refine(hp.mem e.on hes).1 ?_
    simp only[Array.getD,hsz,dif_pos]at h1⊢
    exact h1
   have hanc:∀j,Anc ops j i→j∈l:=fun j hj=>QdA (listed:=fun k=>k∈l) (fun k o hk ho=>hp.closed k o hk ho) hj hedge'
   have hno:∀k∈l,¬Anc ops i k:=fun k hk hik=>hil (QdA (listed:=fun k=>k∈l) (fun k o hk ho=>hp.closed k o hk ho) hik (fun o ho=>hp.closed k o hk ho))
   have hcl:i<cs.length:=by rw[hS.len];exact his
   have hc:cs[i]? =some cs[i]:=List.getElem?_eq_getElem hcl
   obtain⟨h',hs,hg'⟩:=hG.step l h i hg hcl hil hanc hno
   have hag:=agree hS hc hil hanc hno hp.order st.T
   rw[←Qh2 hr i (by omega)]at hag
   have hstep:=QgH hr hc hag.1 hag.2 hs
   have:=Qb3 (K:=wpAny P .any ops Q fuel (listed.setIfInBounds i true)) (Q:=Q) (hS.comp i o _ ho hc) hE hi hlim hstep fun g' a' w' hw' hi' hx=> ?_
   ·unfold wpOp
    rw[ho]
    exact this
   ·refine ih _ (l++ [i]) h' g' a' w' ?_ (Qmp hS hp his hil hanc hno) ?_ hg' (hw.trans hw') ?_ (Nat.le_trans hlim hx.1)
    ·have:=Qdi (p:=fun k=> !l.contains k) (q:=fun k=> !(l++ [i]).contains k) (List.range ops.size) (fun x hx=>by simp at hx⊢;exact hx.1) i (List.mem_range.2 his) (by simp[hil]) (by simp)
     omega
    ·intro k hk
     rw[List.mem_append,List.mem_singleton]at hk
     rcases hk with hk|rfl
     ·exact hlt k hk
     ·exact his
    ·have e:Qau (QaB E lim cs st) (l++ [i]) st.T=(QaB E lim cs st i).run (Qau (QaB E lim cs st) l st.T):=by
      simp[Qau,List.foldl_append]
     rw[e];exact hi'
end
end Go.Abs
namespace Go.Abs
open Go.RowKit
variable [Tab] [Dfr]
theorem QcH(o:COp):QbB o=0∨QbB o=1∨QbB o=2:=by cases o<;>simp[QbB]
def Qaq(cs:List COper)(k i:Nat):Prop:=∃c,cs[i]? =some c∧QbB c.op=k
theorem Qak{cs:List COper}{k i:Nat}:i∈QaH cs k↔Qaq cs k i:=by
 unfold QaH Qaq
 rw[List.mem_filter,List.mem_range]
 constructor
 ·rintro⟨h1,h2⟩
  rw[List.getElem?_eq_getElem h1]at h2
  exact⟨_,List.getElem?_eq_getElem h1,by simpa using h2⟩
 ·rintro⟨c,hc,hk⟩
  refine⟨(List.getElem?_eq_some_iff.1 hc).1, ?_⟩
  rw[hc];simp[hk]
section
variable {E:Qa0} {lim:Nat} {ops:Array Oper} {cs:List COper} {st st':St}
theorem Qcv(hr:runOps E lim cs st=some st'){i:Nat}{c:COper}(hc:cs[i]? =some c):(∀v,QbE E lim cs st i=some v→aop E lim (Qbx E lim cs st i).H (evx (Qbx E lim cs st i).T c.cons) c.op=some (v,(Qbx E lim cs st (i+1)).H))∧
  (QbE E lim cs st i=none→(Qbx E lim cs st (i+1)).H=(Qbx E lim cs st i).H):=by
 obtain⟨_,h1,h2⟩:=Qfh (QdT hr hc)
 have hv:QbE E lim cs st i=Qgx E lim c (Qbx E lim cs st i):=by simp[QbE,hc]
 rw[hv]
 exact⟨fun v h=>(h1 v h).1,fun h=>(h2 h).1⟩
theorem quiet(hr:runOps E lim cs st=some st'){i:Nat}(hi:i<cs.length)(h:¬Qaq cs 2 i):(Qbx E lim cs st (i+1)).H=(Qbx E lim cs st i).H:=by
 have hc:cs[i]? =some cs[i]:=List.getElem?_eq_getElem hi
 obtain⟨h1,h2⟩:=Qcv hr hc
 cases hv:QbE E lim cs st i with
 |none=>exact h2 hv
 |some v=>
  have ha:=h1 v hv
  rcases QcH cs[i].op with h0|h0|h0
  ·exact(QeO h0 ha).1
  ·exact QcM h0 ha
  ·exact absurd ⟨_,hc,h0⟩ h
theorem QdW(hr:runOps E lim cs st=some st'){m:Nat}:∀(k:Nat),m≤k→k≤cs.length→(∀e,m≤e→e<k→¬Qaq cs 2 e)→(Qbx E lim cs st k).H=(Qbx E lim cs st m).H:=by
 intro k
 induction k with
 |zero=>intro h _ _;have:m=0:=by omega
        subst this;rfl
 |succ k ih=>
  intro h hk hq
  rcases Nat.lt_or_ge k m with h'|h'
  ·have:m=k+1:=by omega
   subst this;rfl
  ·rw[quiet hr (by omega) (hq k h' (by omega))]
   exact ih h' (by omega) fun e h1 h2=>hq e h1 (by omega)
theorem QbN(hr:runOps E lim cs st=some st'){m k:Nat}(hm:m≤cs.length)(hk:k≤cs.length)(h:∀e,Qaq cs 2 e→(e<m↔e<k)):(Qbx E lim cs st m).H=(Qbx E lim cs st k).H:=by
 rcases Nat.le_total m k with h'|h'
 ·exact(QdW hr k h' hk fun e h1 h2 h3=>by have:=(h e h3).2 h2;omega).symm
 ·exact QdW hr m h' hm fun e h1 h2 h3=>by have:=(h e h3).1 h2;omega
theorem QkB(hr:runOps E lim cs st=some st'){i:Nat}{c:COper}(hc:cs[i]? =some c)(h0:QbB c.op=0)(h:Qab):Qi4 E lim cs st i h h:=by
 intro d hd
 rw[hc]at hd;injection hd with hd;subst hd
 exact⟨fun _=>rfl,fun v hv=>(QeO h0 ((Qcv hr hc).1 v hv)).2 h⟩
theorem Qg3(hr:runOps E lim cs st=some st')(ht:∀i j,Qaq cs 2 i→Qaq cs 2 j→i<j→Anc ops i j)(hrd:∀r e,Qaq cs 1 r→Qaq cs 2 e→(e<r→Anc ops e r)∧(¬e<r→Anc ops r e)):
  Game E lim ops cs st st' fun l h=>∃m,m≤cs.length∧h=(Qbx E lim cs st m).H∧∀e,Qaq cs 2 e→(e∈l↔e<m) where
 start:=⟨0,Nat.zero_le _,rfl,fun e _=>by simp⟩
 fin:=by
  rintro l h ⟨m,hm,rfl,hl⟩ hall
  rw[←QdU hr (Nat.le_refl _)]
  refine QbN hr hm (Nat.le_refl _) fun e he=> ?_
  have hlt:e<cs.length:=by obtain⟨c,hc,_⟩:=he;exact(List.getElem?_eq_some_iff.1 hc).1
  exact⟨fun _=>hlt,fun _=>(hl e he).1 (hall e hlt)⟩
 step:=by
  rintro l h i ⟨m,hm,rfl,hl⟩ hi hil hanc hno
  have hc:cs[i]? =some cs[i]:=List.getElem?_eq_getElem hi
  obtain⟨v1,v2⟩:=Qcv hr hc
  have same:¬Qaq cs 2 i→∀e,Qaq cs 2 e→(e∈l++ [i]↔e<m):=fun hn e he=>by
   rw[List.mem_append,List.mem_singleton,←hl e he]
   exact⟨fun h=>h.resolve_right (fun h=>hn (h▸he)),.inl⟩
  rcases QcH cs[i].op with h0|h0|h0
  ·exact⟨_,QkB hr hc h0 _,m,hm,rfl,same (by rintro⟨c,hc',h2⟩;rw[hc]at hc';injection hc' with hc';subst hc';omega)⟩
  ·have hn:¬Qaq cs 2 i:=by rintro⟨c,hc',h2⟩;rw[hc]at hc';injection hc' with hc';subst hc';omega
   have hH:(Qbx E lim cs st m).H=(Qbx E lim cs st i).H:=QbN hr hm (Nat.le_of_lt hi) fun e he=>by
    rw[←hl e he]
    obtain⟨r1,r2⟩:=hrd i e ⟨_,hc,h0⟩ he
    constructor
    ·intro hel
     rcases Nat.lt_or_ge e i with h|h
     ·exact h
     ·exact absurd (r2 (by omega)) (hno e hel)
    ·intro h;exact hanc e (r1 h)
   refine⟨(Qbx E lim cs st m).H, ?_,m,hm,rfl,same hn⟩
   intro d hd
   rw[hc]at hd;injection hd with hd;subst hd
   refine⟨fun _=>rfl,fun v hv=> ?_⟩
   have ha:=v1 v hv
   rw[hH,ha,QcM h0 ha]
  ·have hH:∀e,Qaq cs 2 e→(e∈l↔e<i):=fun e he=>by
    constructor
    ·intro hel
     rcases Nat.lt_trichotomy e i with h|h|h
     ·exact h
     ·subst h;exact absurd hel hil
     ·exact absurd (ht i e ⟨_,hc,h0⟩ he h) (hno e hel)
    ·intro h;exact hanc e (ht e i he ⟨_,hc,h0⟩ h)
   have hH':(Qbx E lim cs st m).H=(Qbx E lim cs st i).H:=QbN hr hm (Nat.le_of_lt hi) fun e he=>by rw[←hl e he,hH e he]
   refine⟨(Qbx E lim cs st (i+1)).H, ?_,i+1,hi,rfl,fun e he=> ?_⟩
   ·intro d hd
    rw[hc]at hd;injection hd with hd;subst hd
    rw[hH']
    exact⟨v2,v1⟩
   ·rw[List.mem_append,List.mem_singleton,hH e he];omega
theorem Qdp:∀(cs:List COper) {st st':St} {rs:List Rec},traceOps E lim cs st=some (rs,st')→∀(i:Nat) c,cs[i]? =some c→rs[i]? =some ⟨c,(Qbx E lim cs st i).T,QbE E lim cs st i⟩:=by
 intro cs
 induction cs with
 |nil=>intro st st' rs _ i c h;simp at h
 |cons d cs ih=>
  intro st st' rs h i c hc
  simp only[traceOps]at h
  split at h
  ·rename_i r s1 h1
   split at h
   ·rename_i rs' s2 h2
    simp only[Option.some.injEq,Prod.mk.injEq]at h
    obtain⟨rfl,rfl⟩:=h
    cases i with
    |zero=>
     simp only[List.getElem?_cons_zero,Option.some.injEq]at hc;subst hc
     simp only[List.getElem?_cons_zero,Option.some.injEq]
     have hv:QbE E lim (d::cs) st 0=Qgx E lim d st:=by simp[QbE,QfC]
     rw[hv,QfC]
     unfold stepRec at h1
     unfold Qgx
     split at h1
     ·rename_i hw
      simp only[hw]
      split at h1
      ·rename_i v H he
       simp only[Option.some.injEq,Prod.mk.injEq]at h1
       rw[←h1.1,he];rfl
      ·simp at h1
     ·rename_i hw
      simp only[hw]
      simp only[Option.some.injEq,Prod.mk.injEq]at h1
      exact h1.1.symm
     ·simp at h1
    |succ i=>
     simp only[List.getElem?_cons_succ]at hc⊢
     rw[ih h2 i c hc]
     have hso:=QgI h1
     have hrun:=Qa2 cs h2
     have e:Qbx E lim (d::cs) st (i+1)=Qbx E lim cs s1 i:=by
      have:=Qfj hrun i
      unfold Qbx
      simp only[List.take_succ_cons,runOps,hso,this,Option.getD_some]
     have e2:QbE E lim (d::cs) st (i+1)=QbE E lim cs s1 i:=by simp only[QbE,List.getElem?_cons_succ,e]
     rw[e,e2]
   ·simp at h
  ·simp at h
theorem Qm2{rs:List Rec}(htr:traceOps E lim cs st=some (rs,st')){i:Nat}(hi:inertAt rs i=true)(H:Qab):runAt E lim rs i H=some H:=by
 unfold inertAt at hi
 cases hr:rs[i]? with
 |none=>rw[hr]at hi;simp at hi
 |some r=>
  rw[hr]at hi
  have hlen:∀(cs:List COper) {st st':St} {rs:List Rec},traceOps E lim cs st=some (rs,st')→rs.length=cs.length:=by
   intro cs
   induction cs with
   |nil=>intro st st' rs h;simp only[traceOps,Option.some.injEq,Prod.mk.injEq]at h;rw[←h.1];rfl
   |cons c cs ih=>
    intro st st' rs h
    simp only[traceOps]at h
    split at h
    ·split at h
     ·rename_i h2
      simp only[Option.some.injEq,Prod.mk.injEq]at h
      rw[←h.1];simp[ih h2]
     ·simp at h
    ·simp at h
  have hic:i<cs.length:=by rw[←hlen cs htr];exact(List.getElem?_eq_some_iff.1 hr).1
  have hc:cs[i]? =some cs[i]:=List.getElem?_eq_getElem hic
  have h1:=Qdp cs htr i _ hc
  rw[hr]at h1
  simp only[Option.some.injEq]at h1
  subst h1
  simp only[runAt,hr]
  have hrun:=Qa2 cs htr
  cases hv:QbE E lim cs st i with
  |none=>rfl
  |some v=>
   rw[hv]at hi
   show(match aop E lim H (evx (Qbx E lim cs st i).T cs[i].cons) cs[i].op with
    |some (v',H')=>if AV.beq v' v then some H' else none
    |none=>none)=some H
   have ha:=(Qcv hrun hc).1 v hv
   simp only[inertRec]at hi
   generalize(Qbx E lim cs st i).H=K at ha
   generalize(Qbx E lim cs st (i+1)).H=K' at ha
   generalize evx (Qbx E lim cs st i).T cs[i].cons=ρ at ha hi⊢
   have key:aop E lim H ρ cs[i].op=some (v,H):=by
    split at hi
    ·rename_i sz zero len parts heq
     rw[heq]at ha⊢
     split at hi
     ·cases h2:fill (List.replicate len zero.cells).flatten (parts.map fun p=>(p.1*sz,sz,ρ p.2))with
      |none=>simp[aop,h2]at ha
      |some c=>cases h3:chunks sz (sz !=1) len c with
       |none=>simp[aop,h2,h3]at ha
       |some xs=>
        simp[aop,h2,h3]at ha⊢
        exact ha.1
     ·simp at hi
    ·rename_i sz zero len parts heq
     rw[heq]at ha⊢
     cases h2:fill (List.replicate len zero.cells).flatten (parts.map fun p=>(p.1*sz,sz,ρ p.2))with
     |none=>simp[aop,h2]at ha
     |some c=>cases h3:chunks sz (sz !=1) len c with
      |none=>simp[aop,h2,h3]at ha
      |some xs=>
       simp[aop,h2,h3]at ha⊢
       exact ha.1
    ·rename_i x heq
     rw[heq]at ha⊢
     cases h2:ρ x with
     |lit xs=>
      simp[aop,h2]at ha⊢
      exact ha.1
     |_=>simp[aop,h2]at ha
    ·rename_i sz bytes str x y heq
     rw[heq]at ha⊢
     split at hi
     ·simp at hi
     ·rename_i hno
      have hs:srcOf str (sz !=1) K (ρ y)=srcOf str (sz !=1) H (ρ y):=by
       unfold srcOf
       split<;>first|rfl|(rename_i h5;exact absurd h5 (hno _ _ _ _ _))
      cases h2:ρ x with
      |fslice xs=>cases h3:srcOf str (sz !=1) H (ρ y)with
       |none=>simp[aop,h2,hs,h3]at ha
       |some ys=>
        simp only[aop,h2,hs,h3]at ha⊢
        split at ha
        ·rename_i h8
         rw[if_pos h8]
         simp only[Option.some.injEq,Prod.mk.injEq]at ha⊢
         exact⟨ha.1,trivial⟩
        ·simp at ha
      |_=>simp[aop,h2]at ha
    ·simp at hi
   rw[key]
   simp[AV.beq_self]
theorem QhY{rs:List Rec}{c:Chk}(hin:∀i,inertAt rs i=true→∀H,runAt E lim rs i H=some H){Hf:Qab}:∀(K k:Nat) (S S2:List Nat) (h:Qab),explore E lim rs (thin rs c) Hf k S h=true→
  (∀e∈c.es,inertAt rs e=false→(e∈S2↔e∈S))→(c.es.filter fun e=> !S2.contains e).length<K→explore E lim rs c Hf K S2 h=true:=by
 intro K
 induction K with
 |zero=>intro k S S2 h _ _ hlt;omega
 |succ K ih=>
  intro k S S2 h hx hS hlt
  cases k with
  |zero=>simp[explore]at hx
  |succ k=>
   have hx0:=hx
   have mem:∀e,e∈(thin rs c).es↔e∈c.es∧inertAt rs e=false:=fun e=>by simp[thin]
   simp only[explore,Bool.and_eq_true,List.all_eq_true]at hx⊢
   obtain⟨hx1,hx2⟩:=hx
   refine⟨fun r hr=> ?_, ?_⟩
   ·have:=hx1 r hr
    simp only[Bool.or_eq_true,Bool.not_eq_true']at this⊢
    rcases this with h1|h1
    ·left
     cases hm:mayStand c S2 r with
     |false=>rfl
     |true=>
      rw[←h1]
      simp only[mayStand,List.all_eq_true]at hm⊢
      refine Eq.symm ?_
      rw[List.all_eq_true]
      intro e he
      obtain⟨he1,he2⟩:=(mem e).1 he
      have h2:=hm e he1
      have h3:=hS e he1 he2
      have h4:S2.contains e=S.contains e:=by
       rw[Bool.eq_iff_iff];simpa using h3
      rw[h4]at h2
      exact h2
    ·exact .inr h1
   ·split
    ·rename_i hall
     rw[if_pos]at hx2
     ·exact hx2
     ·intro e he
      obtain⟨he1,he2⟩:=(mem e).1 he
      have:=hall e he1
      simp only[List.contains_iff_mem]at this⊢
      exact(hS e he1 he2).1 this
    ·rw[List.all_eq_true]
     intro e he
     by_cases hes:e∈S2
     ·simp[hes]
     by_cases hrd:(c.es.all fun e'=>S2.contains e'|| !c.anc.contains (e,e'))=true
     ·have hcount:(c.es.filter fun e'=> !(e::S2).contains e').length<K:=by
       have:=Qdi (p:=fun e'=> !S2.contains e') (q:=fun e'=> !(e::S2).contains e') c.es (fun x hx=>by simp at hx⊢;exact hx.2) e he (by simp[hes]) (by simp)
       omega
      cases hi:inertAt rs e with
      |true=>
       rw[hin e hi h]
       simp only[hrd,Bool.not_true,Bool.or_false,Bool.or_eq_true]
       right
       refine ih (k+1) S (e::S2) h hx0 (fun e' he' hi'=> ?_) hcount
       have hne:e'≠e:=fun q=>by subst q;rw[hi]at hi';cases hi'
       simp[hne,hS e' he' hi']
      |false=>
       have heS:e∉S:=fun q=>hes ((hS e he hi).2 q)
       rw[if_neg]at hx2
       ·rw[List.all_eq_true]at hx2
        have:=hx2 e ((mem e).2 ⟨he,hi⟩)
        have hrd':((thin rs c).es.all fun e'=>S.contains e'|| !(thin rs c).anc.contains (e,e'))=true:=by
         rw[List.all_eq_true]at hrd⊢
         intro e' he'
         obtain⟨h1,h2⟩:=(mem e').1 he'
         have h3:=hrd e' h1
         have h4:S2.contains e'=S.contains e':=by
          rw[Bool.eq_iff_iff];simpa using hS e' h1 h2
         rw[h4]at h3
         exact h3
        rw[hrd']at this
        simp only[Bool.not_true,Bool.or_false,Bool.or_eq_true,List.contains_iff_mem,heS,false_or]at this
        simp only[hrd,Bool.not_true,Bool.or_false,Bool.or_eq_true]
        right
        split at this
        ·rename_i h' hr'
         try rw[hr']
         refine ih k (e::S) (e::S2) h' this (fun e' he' hi'=> ?_) hcount
         simp[hS e' he' hi']
        ·simp at this
       ·intro q
        have:=q e ((mem e).2 ⟨he,hi⟩)
        simp[heS]at this
     ·rw[Bool.not_eq_true]at hrd
      simp only[hrd,Bool.not_false,Bool.or_true,Bool.true_or]
theorem QgL{rs:List Rec}(htr:traceOps E lim cs st=some (rs,st')){i:Nat}(hi:i<cs.length):runAt E lim rs i (Qbx E lim cs st i).H=some (Qbx E lim cs st (i+1)).H:=by
 have hr:=Qa2 cs htr
 have hc:cs[i]? =some cs[i]:=List.getElem?_eq_getElem hi
 obtain⟨v1,v2⟩:=Qcv hr hc
 unfold runAt
 rw[Qdp cs htr i _ hc]
 cases hv:QbE E lim cs st i with
 |none=>simp only[v2 hv]
 |some v=>simp only[v1 v hv,AV.beq_self,if_true]
theorem Qep{rs:List Rec}(htr:traceOps E lim cs st=some (rs,st')){i:Nat}(hi:i<cs.length){h h':Qab}(hra:runAt E lim rs i h=some h'):Qi4 E lim cs st i h h':=by
 have hc:cs[i]? =some cs[i]:=List.getElem?_eq_getElem hi
 have hrec:=Qdp cs htr i _ hc
 intro d hd
 rw[hc]at hd;injection hd with hd;subst hd
 unfold runAt at hra
 rw[hrec]at hra
 cases hv:QbE E lim cs st i with
 |none=>
  rw[hv]at hra
  simp only[Option.some.injEq]at hra
  exact⟨fun _=>hra.symm,fun v h=>by cases h⟩
 |some v=>
  rw[hv]at hra
  simp only at hra
  refine⟨fun h=>(by cases h),fun v' hv'=> ?_⟩
  injection hv' with hv';subst hv'
  split at hra
  ·rename_i v2 H2 he
   split at hra
   ·rename_i hb
    simp only[Option.some.injEq]at hra;subst hra
    rw[he,AV.beq_eq hb]
   ·simp at hra
  ·simp at hra
theorem QgQ{look:Nat→List Nat}{n:Nat}:∀ {es:List Nat},QdX look n es= []→look n= []∧∀e∈es,look e= []
 | [],h=>by
   simp only[QdX]at h
   split at h
   ·rename_i h1;exact⟨by simpa using h1,by simp⟩
   ·cases h
 |e::es,h=>by
  simp only[QdX]at h
  split at h
  ·rename_i h0
   obtain⟨h1,h2⟩:=QgQ h0
   split at h
   ·rename_i h3
    exact⟨h1,by simpa using⟨by simpa using h3,h2⟩⟩
   ·cases h
  ·cases h
theorem QgP{rs:List Rec}(htr:traceOps E lim cs st=some (rs,st')){look:Nat→List Nat}:∀(es:List Nat) (m0:Nat),m0≤cs.length→(∀e,Qaq cs 2 e→(m0≤e↔e∈es))→es.Pairwise (· < ·)→(∀e∈es,Qaq cs 2 e)→
  chainOK E lim rs (QdX look cs.length es) (Qbx E lim cs st m0).H=true→∀m,(m∈es∨m=cs.length)→∀r∈look m,(runAt E lim rs r (Qbx E lim cs st m).H).isSome=true
 | [],m0,hm0,hall,_,_,h,m,hm,r,hr=>by
   have hm:m=cs.length:=by rcases hm with hm|hm;· simp at hm
                           ·exact hm
   subst hm
   have hq:(Qbx E lim cs st cs.length).H=(Qbx E lim cs st m0).H:=QdW (Qa2 cs htr) cs.length hm0 (Nat.le_refl _) fun e h1 _ h3=>by have:=(hall e h3).1 h1;simp at this
   simp only[QdX]at h
   split at h
   ·rename_i h1
    have:look cs.length= []:=by simpa using h1
    rw[this]at hr;simp at hr
   ·simp only[chainOK,Bool.and_true,List.all_eq_true]at h
    rw[hq];exact h r hr
 |e::es,m0,hm0,hall,hp,hcl,h,m,hm,r,hr=>by
  have hrun:=Qa2 cs htr
  have hel:e<cs.length:=by obtain⟨c,hc,_⟩:=hcl e (by simp);exact(List.getElem?_eq_some_iff.1 hc).1
  have hm0e:m0≤e:=(hall e (hcl e (by simp))).2 (by simp)
  have hq:(Qbx E lim cs st e).H=(Qbx E lim cs st m0).H:=QdW hrun e hm0e (Nat.le_of_lt hel) fun e' h1 h2 h3=>by
   have:=(hall e' h3).1 h1
   rcases List.mem_cons.1 this with h4|h4
   ·omega
   ·have:=(List.pairwise_cons.1 hp).1 e' h4;omega
  have hall':∀e',Qaq cs 2 e'→(e+1≤e'↔e'∈es):=fun e' he'=>by
   constructor
   ·intro h1
    rcases List.mem_cons.1 ((hall e' he').1 (by omega))with h4|h4
    ·omega
    ·exact h4
   ·intro h1;exact(List.pairwise_cons.1 hp).1 e' h1
  simp only[QdX]at h
  split at h
  ·rename_i h0
   obtain⟨q1,q2⟩:=QgQ h0
   have hm:m=e:=by
    rcases hm with hm|hm
    ·rcases List.mem_cons.1 hm with hm|hm
     ·exact hm
     ·rw[q2 m hm]at hr;simp at hr
    ·subst hm;rw[q1]at hr;simp at hr
   subst hm
   split at h
   ·rename_i h1
    have:look m= []:=by simpa using h1
    rw[this]at hr;simp at hr
   ·simp only[chainOK,Bool.and_true,List.all_eq_true]at h
    rw[hq];exact h r hr
  ·rename_i q rest h0
   simp only[chainOK,Bool.and_eq_true,List.all_eq_true]at h
   obtain⟨h1,h2⟩:=h
   rw[←hq]at h1 h2
   rw[QgL htr hel]at h2
   by_cases hme:m=e
   ·subst hme;exact h1 r hr
   ·exact QgP htr es (e+1) hel hall' (List.pairwise_cons.1 hp).2 (fun x hx=>hcl x (by simp[hx])) (by rw[h0];exact h2) m (by
     rcases hm with hm|hm
     ·rcases List.mem_cons.1 hm with hm|hm
      ·exact absurd hm hme
      ·exact .inl hm
     ·exact .inr hm) r hr
theorem Qgl(k:Nat):(QaH cs k).Pairwise (· < ·):=List.Pairwise.filter _ List.pairwise_lt_range
theorem Qlw{rs:List Rec}(htr:traceOps E lim cs st=some (rs,st'))(ht:∀i j,Qaq cs 2 i→Qaq cs 2 j→i<j→Anc ops i j)
  (hlook:∀r m,Qaq cs 1 r→m≤cs.length→(∀e,Qaq cs 2 e→(Anc ops e r→e<m)∧(Anc ops r e→¬e<m))→(runAt E lim rs r (Qbx E lim cs st m).H).isSome=true):
  Game E lim ops cs st st' fun l h=>∃m,m≤cs.length∧h=(Qbx E lim cs st m).H∧∀e,Qaq cs 2 e→(e∈l↔e<m):=by
 have hr:=Qa2 cs htr
 refine{ start:=⟨0,Nat.zero_le _,rfl,fun e _=>by simp⟩,fin:= ?_,step:= ?_ }
 ·rintro l h i ⟨m,hm,rfl,hl⟩ hi hil hanc hno
  have hc:cs[i]? =some cs[i]:=List.getElem?_eq_getElem hi
  obtain⟨v1,v2⟩:=Qcv hr hc
  have same:¬Qaq cs 2 i→∀e,Qaq cs 2 e→(e∈l++ [i]↔e<m):=fun hn e he=>by
   rw[List.mem_append,List.mem_singleton,←hl e he]
   exact⟨fun h=>h.resolve_right (fun h=>hn (h▸he)),.inl⟩
  rcases QcH cs[i].op with h0|h0|h0
  ·exact⟨_,QkB hr hc h0 _,m,hm,rfl,same (by rintro⟨c,hc',h2⟩;rw[hc]at hc';injection hc' with hc';subst hc';omega)⟩
  ·have hn:¬Qaq cs 2 i:=by rintro⟨c,hc',h2⟩;rw[hc]at hc';injection hc' with hc';subst hc';omega
   have hs:=hlook i m ⟨_,hc,h0⟩ hm fun e he=>⟨fun ha=>(hl e he).1 (hanc e ha),fun ha hlt=>hno e ((hl e he).2 hlt) ha⟩
   obtain⟨h',hra⟩:=Option.isSome_iff_exists.1 hs
   have hst:=Qep htr hi hra
   have hh:h'=(Qbx E lim cs st m).H:=by
    obtain⟨q1,q2⟩:=hst _ hc
    cases hv:QbE E lim cs st i with
    |none=>exact q1 hv
    |some v=>exact QcM h0 (q2 v hv)
   subst hh
   exact⟨_,hst,m,hm,rfl,same hn⟩
  ·have hH:∀e,Qaq cs 2 e→(e∈l↔e<i):=fun e he=>by
    constructor
    ·intro hel
     rcases Nat.lt_trichotomy e i with h|h|h
     ·exact h
     ·subst h;exact absurd hel hil
     ·exact absurd (ht i e ⟨_,hc,h0⟩ he h) (hno e hel)
    ·intro h;exact hanc e (ht e i he ⟨_,hc,h0⟩ h)
   have hH':(Qbx E lim cs st m).H=(Qbx E lim cs st i).H:=QbN hr hm (Nat.le_of_lt hi) fun e he=>by rw[←hl e he,hH e he]
   refine⟨(Qbx E lim cs st (i+1)).H, ?_,i+1,hi,rfl,fun e he=> ?_⟩
   ·intro d hd
    rw[hc]at hd;injection hd with hd;subst hd
    rw[hH']
    exact⟨v2,v1⟩
   ·rw[List.mem_append,List.mem_singleton,hH e he];omega
 ·rintro l h ⟨m,hm,rfl,hl⟩ hall
  rw[←QdU hr (Nat.le_refl _)]
  refine QbN hr hm (Nat.le_refl _) fun e he=> ?_
  have hlt:e<cs.length:=by obtain⟨c,hc,_⟩:=he;exact(List.getElem?_eq_some_iff.1 hc).1
  exact⟨fun _=>hlt,fun _=>(hl e he).1 (hall e hlt)⟩
theorem look_all{rs:List Rec}(htr:traceOps E lim cs st=some (rs,st')){bits:Array Nat}(hx:chainOK E lim rs (QdX (QmQ bits (QaH cs 2) (QaH cs 1)) cs.length (QaH cs 2)) st.H=true){r m:Nat}(hr:Qaq cs 1 r)(hm:m≤cs.length)
  (hal:∀e,Qaq cs 2 e→(ancB bits r e=true→e<m)∧(ancB bits e r=true→¬e<m)):(runAt E lim rs r (Qbx E lim cs st m).H).isSome=true:=by
 have hrun:=Qa2 cs htr
 have hrl:r<cs.length:=by obtain⟨c,hc,_⟩:=hr;exact(List.getElem?_eq_some_iff.1 hc).1
 by_cases hnat:∀e,Qaq cs 2 e→(e<m↔e<r)
 ·rw[QbN hrun hm (Nat.le_of_lt hrl) hnat,QgL htr hrl];rfl
 ·have hpw:=Qgl (cs:=cs) 2
  have hrep:∃m',(m'∈QaH cs 2∨m'=cs.length)∧∀e,Qaq cs 2 e→(e<m↔e<m'):=by
   cases hf:(QaH cs 2).find? fun e=> !decide (e<m)with
   |none=>
    refine⟨cs.length,.inr rfl,fun e he=> ?_⟩
    have h1:=List.find?_eq_none.1 hf e (Qak.2 he)
    have hlt:e<cs.length:=by obtain⟨c,hc,_⟩:=he;exact(List.getElem?_eq_some_iff.1 hc).1
    simp at h1
    exact⟨fun _=>hlt,fun _=>h1⟩
   |some m'=>
    obtain⟨h1,as,bs,h2,h3⟩:=List.find?_eq_some_iff_append.1 hf
    simp at h1
    refine⟨m',.inl (by rw[h2];simp),fun e he=> ?_⟩
    have h4:=Qak.2 he
    rw[h2]at h4 hpw
    rw[List.pairwise_append]at hpw
    rcases List.mem_append.1 h4 with h5|h5
    ·have h6:=h3 e h5
     simp at h6
     have h7:=hpw.2.2 e h5 m' (by simp)
     exact⟨fun _=>h7,fun _=>h6⟩
    ·rcases List.mem_cons.1 h5 with h6|h6
     ·subst h6;omega
     ·have:=(List.pairwise_cons.1 hpw.2.1).1 e h6;omega
  obtain⟨m',hm',heq⟩:=hrep
  have hm'l:m'≤cs.length:=by
   rcases hm' with h|h
   ·obtain⟨c,hc,_⟩:=Qak.1 h;exact Nat.le_of_lt (List.getElem?_eq_some_iff.1 hc).1
   ·omega
  rw[QbN hrun hm hm'l heq]
  have h0:(Qbx E lim cs st 0).H=st.H:=by rw[QfC]
  refine QgP htr (QaH cs 2) 0 (Nat.zero_le _) (fun e he=>⟨fun _=>Qak.2 he,fun _=>Nat.zero_le _⟩) hpw (fun e he=>Qak.1 he) (by rw[h0];exact hx) m' hm' r ?_
  simp only[QmQ,List.mem_filter,Bool.and_eq_true,List.all_eq_true,Bool.or_eq_true,Bool.not_eq_true',decide_eq_true_eq,decide_eq_false_iff_not]
  refine⟨Qak.2 hr,fun e he=> ?_, ?_⟩
  ·have he:=Qak.1 he
   obtain⟨q1,q2⟩:=hal e he
   rw[heq e he]at q1 q2
   constructor
   ·cases h:ancB bits r e with
    |true=>exact .inr (q1 h)
    |false=>exact .inl rfl
   ·cases h:ancB bits e r with
    |true=>exact .inr (q2 h)
    |false=>exact .inl rfl
  ·rw[Bool.eq_false_iff]
   intro hall
   rw[List.all_eq_true]at hall
   refine hnat fun e he=> ?_
   have:=hall e (Qak.2 he)
   rw[heq e he]
   simpa using this
theorem QiK{rs:List Rec}(htr:traceOps E lim cs st=some (rs,st')){c:Chk}(hes:∀i,i∈c.es↔Qaq cs 2 i)(hrs:∀i,i∈c.rs↔Qaq cs 1 i)(hanc:∀i j,(j,i)∈c.anc→Anc ops i j){n:Nat}
  (hx:explore E lim rs c st'.H n [] st.H=true):
  Game E lim ops cs st st' fun l h=>∃k S,explore E lim rs c st'.H k S h=true∧(∀e∈S,e∈c.es)∧∀e∈c.es,e∈S↔e∈l where
 start:=⟨n,[],hx,by simp,by simp⟩
 fin:=by
  rintro l h ⟨k,S,hx,hS,hl⟩ hall
  cases k with
  |zero=>simp[explore]at hx
  |succ k=>
   simp only[explore,Bool.and_eq_true]at hx
   have hx:=hx.2
   rw[if_pos]at hx
   ·exact Qb4 hx
   ·rw[List.all_eq_true]
    intro e he
    obtain⟨d,hd,_⟩:=(hes e).1 he
    simpa using(hl e he).2 (hall e (List.getElem?_eq_some_iff.1 hd).1)
 step:=by
  rintro l h i ⟨k,S,hx,hS,hl⟩ hi hil hbef hno
  have hr:=Qa2 cs htr
  have hc:cs[i]? =some cs[i]:=List.getElem?_eq_getElem hi
  have hrec:=Qdp cs htr i _ hc
  cases k with
  |zero=>simp[explore]at hx
  |succ k=>
   have same:i∉c.es→∀e∈c.es,e∈S↔e∈l++ [i]:=fun hn e he=>by
    rw[hl e he,List.mem_append,List.mem_singleton]
    exact⟨.inl,fun h=>h.resolve_right fun h=>hn (h▸he)⟩
   have once:∀h',runAt E lim rs i h=some h'→Qi4 E lim cs st i h h':=by
    intro h' hra d hd
    rw[hc]at hd;injection hd with hd;subst hd
    unfold runAt at hra
    rw[hrec]at hra
    cases hv:QbE E lim cs st i with
    |none=>
     rw[hv]at hra
     simp only[Option.some.injEq]at hra
     exact⟨fun _=>hra.symm,fun v h=>by cases h⟩
    |some v=>
     rw[hv]at hra
     simp only at hra
     refine⟨fun h=>(by cases h),fun v' hv'=> ?_⟩
     injection hv' with hv';subst hv'
     split at hra
     ·rename_i v2 H2 he
      split at hra
      ·rename_i hb
       simp only[Option.some.injEq]at hra;subst hra
       rw[he,AV.beq_eq hb]
      ·simp at hra
     ·simp at hra
   have hx':=hx
   simp only[explore,Bool.and_eq_true,List.all_eq_true]at hx
   obtain⟨hx1,hx2⟩:=hx
   rcases QcH cs[i].op with h0|h0|h0
   ·have hn:i∉c.es:=fun hm=>by obtain⟨d,hd,h2⟩:=(hes i).1 hm;rw[hc]at hd;injection hd with hd;subst hd;omega
    exact⟨h,QkB hr hc h0 h,k+1,S,hx',hS,same hn⟩
   ·have hn:i∉c.es:=fun hm=>by obtain⟨d,hd,h2⟩:=(hes i).1 hm;rw[hc]at hd;injection hd with hd;subst hd;omega
    have hm:=hx1 i ((hrs i).2 ⟨_,hc,h0⟩)
    have hst:mayStand c S i=true:=by
     unfold mayStand
     rw[List.all_eq_true]
     intro e he
     simp only[Bool.and_eq_true,Bool.or_eq_true,Bool.not_eq_true']
     constructor
     ·by_cases hb:c.anc.contains (i,e)=true
      ·exact .inr (by simpa using(hl e he).2 (hbef e (hanc e i (by simpa using hb))))
      ·exact .inl (by simpa using hb)
     ·by_cases hb:c.anc.contains (e,i)=true
      ·refine .inr ?_
       have:e∉S:=fun hm=>hno e ((hl e he).1 hm) (hanc i e (by simpa using hb))
       simpa using this
      ·exact .inl (by simpa using hb)
    rw[hst]at hm
    simp only[Bool.not_true,Bool.false_or]at hm
    obtain⟨h',hra⟩:=Option.isSome_iff_exists.1 hm
    have hs:=once h' hra
    have e:h'=h:=by
     obtain⟨q1,q2⟩:=hs _ hc
     cases hv:QbE E lim cs st i with
     |none=>exact q1 hv
     |some v=>exact QcM h0 (q2 v hv)
    subst e
    exact⟨h',hs,k+1,S,hx',hS,same hn⟩
   ·have him:i∈c.es:=(hes i).2 ⟨_,hc,h0⟩
    have hiS:i∉S:=fun hm=>hil ((hl i him).1 hm)
    rw[if_neg]at hx2
    ·rw[List.all_eq_true]at hx2
     have h1:=hx2 i him
     have e1:S.contains i=false:=by simpa using hiS
     have e2:(c.es.all fun e'=>S.contains e'|| !c.anc.contains (i,e'))=true:=by
      rw[List.all_eq_true]
      intro e he
      simp only[Bool.or_eq_true,Bool.not_eq_true']
      by_cases hb:c.anc.contains (i,e)=true
      ·exact .inl (by simpa using(hl e he).2 (hbef e (hanc e i (by simpa using hb))))
      ·exact .inr (by simpa using hb)
     rw[e1,e2]at h1
     simp only[Bool.not_true,Bool.false_or]at h1
     split at h1
     ·rename_i h' hra
      refine⟨h',once h' hra,k,i::S,h1, ?_,fun e he=> ?_⟩
      ·intro e he
       rw[List.mem_cons]at he
       rcases he with rfl|he
       ·exact him
       ·exact hS e he
      ·rw[List.mem_cons,List.mem_append,List.mem_singleton,hl e he]
       exact⟨fun h=>h.symm,fun h=>h.symm⟩
     ·simp at h1
    ·intro hall
     exact hiS (by simpa using hall i him)
end
section
variable {P:Program} {E:Qa0} {tk:FuncId→Nat→Bool}
theorem Qkt{α β:Type}{f:α→Option β}:∀ {l:List α} {r:List β},l.mapM f=some r→r.length=l.length∧∀(i:Nat) x y,l[i]? =some x→r[i]? =some y→f x=some y
 | [],r,h=>by simp at h;subst h;simp
 |x::l,r,h=>by
  simp only[List.mapM_cons,Option.bind_eq_bind,Option.pure_def,Option.bind_eq_some_iff,Option.some.injEq]at h
  obtain⟨y,hy,ys,hys,rfl⟩:=h
  obtain⟨h1,h2⟩:=Qkt hys
  refine⟨by simp[h1],fun i a b ha hb=> ?_⟩
  cases i with
  |zero=>simp at ha hb;subst ha hb;exact hy
  |succ i=>exact h2 i a b (by simpa using ha) (by simpa using hb)
theorem Qej{α:Type}{l:List α}{i:Nat}{x:α}(h:l[i]? =some x):(x,i)∈l.zipIdx:=by
 rw[List.mem_iff_getElem?]
 exact⟨i,by rw[List.getElem?_zipIdx,h];simp⟩
theorem Qh1{ops:Array Oper}{cs:List COper}(hm:ops.toList.mapM (Qal P tk ops.toList)=some cs)(hs:Qji (Region.before ops) cs=true)(hb:Qgh ops.toList=true):Static P tk ops cs:=by
 obtain⟨h1,h2⟩:=Qkt hm
 simp only[Qji,Bool.and_eq_true,List.all_eq_true]at hs
 obtain⟨hs1,hs2⟩:=hs
 refine⟨by simpa using h1,fun i o c ho hc=>h2 i o c (by simpa using ho) hc,fun i c hc t ht=> ?_,fun i j c d hij hc hd hsh=> ?_,fun i o ho e he hbd=> ?_⟩
 ·have:=hs1 c (List.mem_of_getElem? hc) t ht
  simpa using this
 ·have:=hs2 (d,j) (Qej hd) (c,i) (Qej hc)
  simp only[hsh,Bool.or_eq_true,decide_eq_true_eq,Bool.not_true,Bool.false_eq_true,or_false]at this
  rcases this with h|h
  ·omega
  ·exact QaR ops h
 ·simp only[Qgh,List.all_eq_true]at hb
  have:=hb (o,i) (Qej (by simpa using ho)) e (by simpa using he)
  simpa[hbd]using this
theorem QeI(hmx:P.follows .mixedOrders=true)(hE:Qcn P E):Qgw P tk E:=by
 intro kp id ops cs chk fg lim g w st a st' Q hc hinv hlim he hQ
 simp only[QaI,Option.bind_eq_bind,Option.pure_def,Option.bind_eq_some_iff]at hc
 obtain⟨cs',hcs,hc⟩:=hc
 simp only[if_true]at hc
 split at hc
 ·rename_i hst
  simp only[Option.some.injEq,CCode.region.injEq]at hc
  obtain⟨rfl,rfl,rfl⟩:=hc
  rw[Bool.and_eq_true]at hst
  have hS:=Qh1 hcs hst.1 hst.2
  have hgame:∃s1,st'=⟨forgetT s1.T ((cs'.filterMap (·.dst)).filter fun d=> !kp.contains d),s1.H⟩∧runOps E lim cs' st=some s1∧∃HG,Game E lim ops cs' st s1 HG:=by
   cases hk:QjR (Region.before ops) cs' with
   |none=>
    rw[hk]at he
    simp only[evalR]at he
    split at he
    ·rename_i s1 h1
     simp only[Option.some.injEq]at he
     refine⟨s1,he.symm,h1,_,Qg3 h1 ?_ ?_⟩
     all_goals
      have hcond:(∀x∈QaH cs' 2,∀y∈QaH cs' 2,x≤y∨ancB (Region.before ops) x y=true)∧∀x∈QaH cs' 1,∀y∈QaH cs' 2,(if y<x then ancB (Region.before ops) x y else ancB (Region.before ops) y x)=true:=by
       unfold QjR at hk
       simp only at hk
       split at hk
       ·rename_i hch
        split at hk
        ·rename_i hrd
         simp only[List.all_eq_true,Bool.or_eq_true,decide_eq_true_eq]at hch hrd
         exact⟨hch,hrd⟩
        ·simp at hk
       ·simp at hk
      first
       |(intro i j hi hj hij
         have:=hcond.1 j (Qak.2 hj) i (Qak.2 hi)
         rcases this with h|h
         ·omega
         ·exact QaR ops h)
       |(intro r e hr he'
         have:=hcond.2 r (Qak.2 hr) e (Qak.2 he')
         exact⟨fun h=>by rw[if_pos h]at this;exact QaR ops this,fun h=>by rw[if_neg h]at this;exact QaR ops this⟩)
    ·simp at he
   |some c=>
    rw[hk]at he
    simp only[evalR]at he
    split at he
    ·rename_i rs s1 h1
     split at he
     ·rename_i hx
      simp only[Option.some.injEq]at he
      refine⟨s1,he.symm,Qa2 _ h1, ?_⟩
      unfold QjR at hk
      simp only at hk
      split at hk
      ·rename_i hch
       simp only[List.all_eq_true,Bool.or_eq_true,decide_eq_true_eq]at hch
       split at hk
       ·simp at hk
       ·simp only[Option.some.injEq]at hk
        subst hk
        simp only[drawOK]at hx
        refine⟨_,Qlw h1 (fun i j hi hj hij=> ?_) fun r m hr hm hal=>look_all h1 hx hr hm fun e he'=>⟨fun q=>(hal e he').1 (QaR ops q),fun q=>(hal e he').2 (QaR ops q)⟩⟩
        rcases hch j (Qak.2 hj) i (Qak.2 hi)with h|h
        ·omega
        ·exact QaR ops h
      ·simp only[Option.some.injEq]at hk
       subst hk
       simp only[drawOK]at hx
       refine⟨_,QiK h1 (c:=⟨QaH cs' 2,QaH cs' 1,_,none⟩) (n:=(QaH cs' 2).length+1) (fun i=>Qak) (fun i=>Qak) (fun i j hm=> ?_) (QhY (fun i hi H=>Qm2 h1 hi H) _ _ [] [] _ hx (fun _ _ _=>Iff.rfl) (by have:=List.length_filter_le (fun e=> !([]:List Nat).contains e) (QaH cs' 2);exact Nat.lt_succ_of_le this))⟩
       simp only[List.mem_flatMap,List.mem_map,List.mem_filter,Prod.mk.injEq]at hm
       obtain⟨x,_,y,⟨_,hy⟩,rfl,rfl⟩:=hm
       exact QaR ops hy
     ·simp at he
    ·simp at he
  obtain⟨s1,rfl,h1,HG,hG⟩:=hgame
  refine wp_region_any hmx ?_
  have hwd:WF g w g { w with drawn:=w.drawn+1 }:=⟨rfl,rfl,rfl,Nat.le_refl _,fun _ _ _=>⟨rfl,rfl,rfl⟩,fun _ _ h=>⟨h,rfl⟩,Nat.le_refl _,fun _ _=>rfl,fun _ h=>h,fun _ h=>h,fun _ _=>rfl⟩
  have fk:∀ {loc:Own} {x:AV} {v:Value},FOK g w loc x v→FOK g { w with drawn:=w.drawn+1 } loc x v:=fun h=>h.keep fun b hb=>⟨hb,rfl,fun cs e fr hh hz=>⟨cs,fr,hh,rfl,hz⟩⟩
  have hid:Inv g st a { w with drawn:=w.drawn+1 }:= {
   heap:=⟨hinv.heap.n,hinv.heap.own,fun r o ho=>(hinv.heap.obj r o ho).keep hwd (by rw[hinv.heap.n];exact(List.getElem?_eq_some_iff.1 ho).1) (fun _=>rfl) (fun j x v h=>fk h),hinv.heap.new,fun n cs hn=>hwd.vr (hinv.heap.glob n cs hn)⟩
   size:=hinv.size
   tok:=fun i x v hx hv=>⟨hwd.vr (hinv.tok i x v hx hv).1,fk (hinv.tok i x v hx hv).2⟩
   nores:=hinv.nores
   defers:=hinv.defers }
  have hext:Ext lim st.H s1.H:=Qeo hE _ hlim h1
  refine Qlu hE hS h1 hG (g0:=g) (w0:=w) (fun g' a' w' hw hi=>hQ g' a' w' hw (QeB hi _) hext) ops.size _ [] st.H g a _ ?_ ?_ (by simp) hG.start hwd hid hlim
  ·exact Nat.le_trans (List.length_filter_le _ _) (by simp)
  ·refine⟨by simp,fun i hi=> ?_,fun k o hk=>by simp at hk,fun t=>by simp⟩
   simp[hi]
 ·simp at hc
end
end Go.Abs
namespace Go.Abs
open Go.RowKit
variable [Tab]
abbrev PV:=TypeId×D
abbrev Qeh:=Nat→List AV→Qab→Option PV
abbrev QeP:=FuncId→Qeh
section
variable (E:Qa0) (EP:QeP)
def panO(lim:Nat)(o:COper)(st:St):Option PV:=match wanted st.T o.guard with
 |some true=>match o.op with
  |.panic x=>match evx st.T o.cons x with
   |.iface t (.d v)=>some (t,v)
   |_=>none
  |.call f args=>if Tab.tak f then none else EP f lim (args.map (evx st.T o.cons)) st.H
  |_=>none
 |_=>none
def panOps(lim:Nat):List COper→St→Option PV
 | [],_=>none
 |o::os,st=>match stepOp E lim o st with
  |some st'=>panOps lim os st'
  |none=>panO EP lim o st
variable (lim:Nat) (L:(St→Option (St ⊕(AExit×St)))→St→Option (AExit×St)) (LP:(St→Option (St ⊕PV))→St→Option PV)
def traceP:List COper→St→Option (List Rec×COper×St)
 | [],_=>none
 |o::os,st=>match stepRec E lim o st with
  |some (r,st')=>match traceP os st' with
   |some (rs,c,s)=>some (r::rs,c,s)
   |none=>none
  |none=>some ([],o,st)
def exploreP(recs:List Rec)(c:Chk)(p:Nat)(ok:Qab→Bool):Nat→List Nat→Qab→Bool
 |0,_,_=>false
 |k+1,S,h=>
  (c.rs.all fun r=>decide (p≤r)|| !mayStand c S r||(runAt E lim recs r h).isSome)&&
  ((c.es.any fun e=>c.anc.contains (p,e)&& !S.contains e)||ok h)&&
  c.es.all fun e=>decide (p≤e)||S.contains e|| !(c.es.all fun e'=>S.contains e'|| !c.anc.contains (e,e'))||
   match runAt E lim recs e h with
   |some h'=>exploreP recs c p ok k (e::S) h'
   |none=>false
def pvBeq(x y:PV):Bool:=x.1==y.1&&D.beq x.2 y.2
def panAt(o:COper)(T:List AV)(v:PV)(h:Qab):Bool:=match panO EP lim o ⟨T,h⟩with
 |some w=>pvBeq w v
 |none=>false
def panR(ops:List COper)(chk:Option Chk)(st:St):Option PV:=match chk with
 |none=>panOps E EP lim ops st
 |some c=>match c.plan with
  |some _=>none
  |none=>match traceP E lim ops st with
   |some (recs,o,s)=>match panO EP lim o s with
    |some v=>if exploreP E lim recs c recs.length (panAt EP lim o s.T v) (c.es.length+1) [] st.H then some v else none
    |none=>none
   |none=>none
def QbQ:CCode→St→Option PV
 |.region ops chk _,st=>panR E EP lim ops chk st
 |.seq a b,st=>match evalC E lim L a st with
  |some (.normal,st')=>QbQ b st'
  |some _=>none
  |none=>QbQ a st
 |.cond c a b,st=>match evx st.T [] c with
  |.d (.bool t)=>if t then QbQ a st else QbQ b st
  |_=>none
 |.block _ a,st=>QbQ a st
 |.loop a,st=>LP (fun s=>match evalC E lim L a s with
  |some (.normal,s')=>some (.inl s')
  |some _=>none
  |none=>match QbQ a s with
   |some r=>some (.inr r)
   |none=>none) st
 |_,_=>none
end
def QkD(pre:List COper)(dsts:List Nat)(c:COper):Option Nat:=match c with
 |⟨some d,.fieldAddr off (.t n),none,[]⟩=>if(pre.any fun b=>match b with
    |⟨_,.fieldAddr off' (.t n'),none,[]⟩=>off'==off&&n'==n
    |_=>false)&& !dsts.contains n then some d else none
 |_=>none
def QkX(pre:List COper)(dsts:List Nat)(S:List COper):List COper→Option (List Nat)
 | []=>some []
 |c::cs=>if(S.any fun d=>sharesSlot d c)then QkX pre dsts (S++ [c]) cs else match QkD pre dsts c,QkX pre dsts S cs with
  |some d,some ds=>some (d::ds)
  |_,_=>none
def COper.may(pf:FuncId→Bool)(o:COper):Bool:=match o.op with
 |.call f _=>pf f
 |.panic _=>true
 |_=>false
def COp.isCall:COp→Bool|.call _ _=>true|_=>false
def QdM(F:List Nat)(b:COper):Bool:=F.all fun d=> !b.reads.contains d&&b.dst !=some d&& !b.cons.contains d
def Qms(pf:FuncId→Bool)(chk:Bool)(dsts:List Nat):List COper→List COper→Bool
 |_,[]=>true
 |pre,o::os=>(!o.may pf||(match QkX pre dsts [o] os with
   |some F=>(pre++ [o]).all (QdM F)
   |none=>false)&&(chk||o.op.isCall||pre.all fun c=>QbB c.op !=2))&&Qms pf chk dsts (pre++ [o]) os
def panCk(pf:FuncId→Bool):CCode→Bool
 |.region ops chk _=>Qms pf chk.isSome (ops.filterMap (·.dst)) [] ops
 |.seq a b=>panCk pf a&&panCk pf b
 |.cond _ a b=>panCk pf a&&panCk pf b
 |.block _ a=>panCk pf a
 |.loop a=>panCk pf a
 |_=>true
section
variable {P:Program} {tk:FuncId→Nat→Bool} {ops:List Oper} {o:Oper}
def COp.pk:COp→Nat|.panic _=>1|.call _ _=>2|_=>0
theorem Qih{α:Type}{z:Option α}{f:α→COp}{y:COp}(hf:∀a,(f a).pk=0)(h:z.map f=some y):y.pk=0:=by
 obtain⟨a,_,rfl⟩:=Option.map_eq_some_iff.1 h
 exact hf a
theorem pk_build{t:TypeId}{l:List (Nat×Operand)}{y:COp}(h:Qbg P t l=some y):y.pk=0:=by
 unfold Qbg at h
 (repeat' split at h)<;>first|cases h|exact Qih (fun _=>rfl) h
theorem QgR{mt:Bool}{b:Builtin}{args:List Operand}{ts:List TypeId}{y:COp}(h:QaM P mt b args ts=some y):y.pk=0:=by
 unfold QaM at h
 split at h
 ·unfold QeK at h
  (repeat' split at h)<;>first|cases h|exact Qih (fun _=>rfl) h
 ·unfold Qb0 at h
  grind[COp.pk]
 ·unfold QdL at h
  grind[COp.pk]
 ·exact Qih (fun _=>rfl) h
 ·exact Qih (fun _=>rfl) h
 ·unfold QcT at h
  grind[COp.pk]
 ·cases h
theorem Qki{y:COp}(h:Qaf P tk ops o=some y)(h1:∀x,o.op≠ .panic x)(h2:∀c,o.op≠ .call c):y.pk=0:=by
 unfold Qaf at h
 split at h
 all_goals try(rename_i hx;first|exact absurd hx (h2 _)|exact absurd hx (h1 _))
 all_goals try exact pk_build h
 all_goals(repeat' (first
  |exact Qih (fun _=>rfl) h
  |(refine Exists.elim h fun _ hh=> ?_;clear h;have h:=hh.2;clear hh)
  |(simp only[Option.bind_eq_bind,Option.bind_eq_some_iff]at h)
  |split at h
  |(simp only[Option.pure_def,Option.some.injEq,reduceCtorEq]at h;done)
  |(simp only[Option.pure_def,Option.some.injEq]at h;subst h;rfl)))
theorem QhM{x:Opd}(h:Qaf P tk ops o=some (.panic x)):∃x0,o.op= .panic x0∧opd x0=some x:=by
 cases ho:o.op with
 |panic x0=>
  simp only[Qaf,ho,Option.map_eq_some_iff]at h
  obtain⟨y,hy,h⟩:=h
  injection h with h
  subst h
  exact⟨x0,rfl,hy⟩
 |call c=>
  exfalso
  obtain⟨callee,args,ts⟩:=c
  simp only[Qaf,ho]at h
  cases callee with
  |builtin b=>have:=QgR (show QaM P _ b _ _=some _ from h);cases this
  |invoke _ _=>simp[Qaw]at h
  |value f=>cases f with
   |const _=>simp[Qaw]at h
   |global _=>simp[Qaw]at h
   |func f=>
    simp only[Qaw]at h
    split at h
    ·simp at h
    ·cases h
   |tmp t=>simp[Qaw]at h
 |_=>have:=Qki h (by simp[ho]) (by simp[ho]);cases this
theorem QiT{f:FuncId}{ys:List Opd}(h:Qaf P tk ops o=some (.call f ys)):∃args ts,o.op= .call ⟨.value (.func f),args,ts⟩∧opds args.toList=some ys:=by
 cases ho:o.op with
 |panic x0=>simp[Qaf,ho]at h
 |call c=>
  obtain⟨callee,args,ts⟩:=c
  simp only[Qaf,ho]at h
  cases callee with
  |builtin b=>have:=QgR (show QaM P _ b _ _=some _ from h);cases this
  |invoke _ _=>simp[Qaw]at h
  |value g=>cases g with
   |const _=>simp[Qaw]at h
   |global _=>simp[Qaw]at h
   |func g=>
    simp only[Qaw]at h
    split at h
    rotate_left
    ·cases h
    simp only[Option.map_eq_some_iff]at h
    obtain⟨aa,h1,h2⟩:=h
    injection h2 with h2 h3
    subst h2;subst h3
    exact⟨args,ts,rfl,h1⟩
   |tmp t=>simp[Qaw]at h
 |_=>have:=Qki h (by simp[ho]) (by simp[ho]);cases this
end
end Go.Abs
namespace Go.Abs
open Go.RowKit
variable [Tab] [Dfr]
def PSound(P:Program)(f:FuncId)(F:Qeh):Prop:=
 ∀lim args H t x,F lim args H=some (t,x)→lim≤H.length→QhU P f∧
  ∀(vals:Array Value) (g:Gh) (w:World),HeapOK g H w→(∀b,g.own b≠ .res)→args.length=vals.size→
   (∀(i:Nat) x v,args[i]? =some x→vals[i]? =some v→VR g w x v∧Triv x v)→
   Calls P f vals w fun e w'=>∃v g' H',e= .panicked [{ v:= .iface t v,recovered:=false }]∧WF g w g' w'∧Ext lim H H'∧HeapOK g' H' w'∧VR g' w' (.d x) v
def PanQ(g:Gh)(w:World)(lim:Nat)(H:Qab)(p:PV)(Q:Exit→Act→World→Prop):Prop:=
 ∀g' H' v a' w',a'.defers=Dfr.ds→WF g w g' w'→Ext lim H H'→HeapOK g' H' w'→VR g' w' (.d p.2) v→Q (.panic [{ v:= .iface p.1 v,recovered:=false }]) a' w'
theorem QfK{E:Qa0}{EP:QeP}{lim:Nat}:∀(cs:List COper) {st:St} {r:PV},panOps E EP lim cs st=some r→runOps E lim cs st=none
 | [],st,r,h=>by cases h
 |c::cs,st,r,h=>by
  simp only[panOps]at h
  simp only[runOps]
  split at h
  ·rename_i s1 h1
   rw[h1]
   exact QfK cs h
  ·rename_i h1
   rw[h1]
section
variable {P:Program} {E:Qa0} {EP:QeP} {tk:FuncId→Nat→Bool} {g:Gh} {w:World} {st:St} {a:Act} {K:Act→World→Prop} {Q:Exit→Act→World→Prop} {o:Oper}
theorem QgS{ops:Array Oper}{c:COper}(hc:Qal P tk ops.toList o=some c)(hP:∀f,PSound P f (EP f))(hinv:Inv g st a w){lim:Nat}(hlim:lim≤st.H.length)
  {p:PV}(hs:panO EP lim c st=some p)(hQ:PanQ g w lim st.H p Q):
  Region.wanted o (yielded ops a.tmps)=true∧o.wp P a w K Q:=by
 have hcc:∃y,Qaf P tk ops.toList o=some y∧c.op=y∧c.dst=o.dst∧c.cons=Qap ops.toList o:=by
  obtain⟨dst,op,type,pos,after,guard⟩:=o
  simp only[Qal,Option.bind_eq_bind,Option.pure_def,Option.bind_eq_some_iff]at hc
  obtain⟨y,hy,hc⟩:=hc
  cases guard with
  |none=>simp at hc;subst hc;exact⟨y,hy,rfl,rfl,rfl⟩
  |some jw=>
   obtain⟨j,want⟩:=jw
   simp only[Option.bind_eq_some_iff,Option.some.injEq]at hc
   obtain⟨p,hp,t,ht,rfl⟩:=hc
   exact⟨y,hy,rfl,rfl,rfl⟩
 obtain⟨y,hy,h1,h2,h3⟩:=hcc
 unfold panO at hs
 split at hs
 ·rename_i hw
  refine⟨Qfu hinv hc hw, ?_⟩
  have hev:=QjK hinv (Qap ops.toList o)
  have nil_:Qap ops.toList o= []→EvT g w (evx st.T (Qap ops.toList o)) a.eval:=fun h=>by rw[h]at hev⊢;exact hev.triv
  rw[h1,h3]at hs
  split at hs
  ·rename_i x
   split at hs
   ·rename_i t v0 hx
    simp only[Option.some.injEq]at hs
    subst hs
    have hy':Qaf P tk ops.toList o=some (.panic x):=by rw[hy]
    obtain⟨x0,ho,hx0⟩:=QhM hy'
    have hv:=(hev x0 x hx0).1
    rw[hx]at hv
    obtain⟨u,hu,hvu⟩:∃u,a.eval x0= .iface t u∧VR g w (.d v0) u:=by
     generalize a.eval x0=v at hv
     cases hv with
     |iface _ _ u h _=>exact⟨u,rfl,h⟩
    have he:(execOp a.eval o).run P w= .halt (.panic (.iface t u)) w:=by
     obtain⟨dst,op,type,pos,after,guard⟩:=o
     simp only at ho;subst ho
     simp only[execOp,hu]
     rfl
    simp only[Oper.wp,he,Oper.upon]
    exact hQ g st.H u a w hinv.defers (WF.refl _ _) (Ext.refl _ _) hinv.heap hvu
   ·cases hs
  ·rename_i f args
   split at hs
   ·cases hs
   rename_i htf
   have hy':Qaf P tk ops.toList o=some (.call f args):=by rw[hy]
   obtain⟨xs,ts,ho,hxs⟩:=QiT hy'
   have hn:Qap ops.toList o= []:=by simp[Qap,Qat,ho,htf]
   obtain⟨q1,q2⟩:=QjV (nil_ hn) hxs
   obtain⟨⟨fn,hf,hb,hname⟩,hc0⟩:=hP f lim _ st.H p.1 p.2 hs hlim
   have hcalls:=hc0 (xs.map a.eval) (g.hide none) w (QiG hinv.heap) (Qg1 hinv.nores) q1 (fun i x v hx hv'=>by
    obtain⟨k1,k2⟩:=q2 i x v hx hv'
    exact⟨QjD k1,k2⟩)
   have he:(execOp a.eval o).run P w= .ok (.enter f (xs.map a.eval)) w:=by
    have:fn.body.isNone=false:=by cases e:fn.body<;>simp_all
    obtain⟨dst,op,type,pos,after,guard⟩:=o
    simp only at ho;subst ho
    show(callFunc f (#[]++xs.map a.eval++ #[])).run P w=_
    simp only[callFunc,Sem.run_bind,run_program,Result.andThen_ok,hf,hname,this]
    simp
   simp only[Oper.wp,he,Oper.upon]
   refine Calls.mono hcalls ?_
   rintro e w' ⟨v,g1,H1,rfl,k1,kx,k2,k3⟩
   have ok:=QjS (cons:= []) (by simp) hinv.heap k1 k2 k3 (FOK.triv (Triv.d _ _))
   exact hQ _ H1 v a w' hinv.defers ok.wf kx ok.heap ok.vr
  ·cases hs
 ·cases hs
theorem PanQ.step{lim:Nat}{H H1:Qab}{g1:Gh}{w1:World}{p:PV}(h:PanQ g w lim H p Q)(hw:WF g w g1 w1)(hx:Ext lim H H1):PanQ g1 w1 lim H1 p Q:=
 fun g' H' v a' w' k0 k1 kx k2 k3=>h g' H' v a' w' k0 (hw.trans k1) (hx.trans kx) k2 k3
theorem Qij{ops:Array Oper}(hE:Qcn P E)(hP:∀f,PSound P f (EP f)){lim:Nat}:∀(l:List Oper) (cs:List COper) {g:Gh} {w:World} {st:St} {a:Act} {p:PV},
  l.mapM (Qal P tk ops.toList)=some cs→Inv g st a w→lim≤st.H.length→panOps E EP lim cs st=some p→PanQ g w lim st.H p Q→wpList P ops Q l a w:=by
 intro l
 induction l with
 |nil=>
  intro cs g w st a p hc hinv hlim hr hQ
  simp at hc;subst hc
  cases hr
 |cons o l ih=>
  intro cs g w st a p hc hinv hlim hr hQ
  simp only[List.mapM_cons,Option.bind_eq_bind,Option.pure_def,Option.bind_eq_some_iff,Option.some.injEq]at hc
  obtain⟨c,hco,cs',hcs,rfl⟩:=hc
  simp only[panOps]at hr
  split at hr
  ·rename_i st1 h1
   simp only[wpList]
   refine Qb3 hco hE hinv hlim h1 fun g' a' w' hw hi hx=> ?_
   exact ih cs' hcs hi (Nat.le_trans hlim hx.1) hr (hQ.step hw hx)
  ·obtain⟨k1,k2⟩:=QgS (K:=fun a' w'=>wpList P ops Q l a' w') hco hP hinv hlim hr hQ
   simp only[wpList]
   rw[if_pos k1]
   exact .inl k2
def Qgu(P:Program)(tk:FuncId→Nat→Bool)(E:Qa0)(EP:QeP)(pf:FuncId→Bool):Prop:=
 ∀(kp:List Nat) (id:Nat) (ops:Array Oper) (cs:List COper) (chk:Option Chk) (fg:List Nat) (lim:Nat) (g:Gh) (w:World) (st:St) (a:Act) (p:PV) (Q:Exit→Act→World→Prop),
  QaI P tk kp ops true=some (.region cs chk fg)→Qms pf chk.isSome (cs.filterMap (·.dst)) [] cs=true→Inv g st a w→lim≤st.H.length→panR E EP lim cs chk st=some p→PanQ g w lim st.H p Q→(Code.region id ops true).wp P Q a w
theorem Qh9{kp:List Nat}{ops:Array Oper}{draw:Bool}{cc:CCode}(h:QaI P tk kp ops draw=some cc):∃cs chk fg,cc= .region cs chk fg:=by
 simp only[QaI,Option.bind_eq_bind,Option.pure_def,Option.bind_eq_some_iff]at h
 obtain⟨cs,_,h⟩:=h
 cases draw with
 |true=>
  simp only[if_true]at h
  split at h
  ·simp at h;exact⟨_,_,_,h.symm⟩
  ·simp at h
 |false=>simp at h;exact⟨_,_,_,h.symm⟩
theorem QaN{pf:FuncId→Bool}(hE:Qcn P E)(hD:Qgw P tk E)(hP:∀f,PSound P f (EP f))(hDP:Qgu P tk E EP pf){kp:List Nat}
  {L:(St→Option (St ⊕(AExit×St)))→St→Option (AExit×St)}(hL:∀body s r,L body s=some r→∃n,Qas body n s=some r)
  {LP:(St→Option (St ⊕PV))→St→Option PV}(hLP:∀body s r,LP body s=some r→∃n,Qas body n s=some r){lim:Nat}:
  ∀(c:Code) (cc:CCode) {g:Gh} {w:World} {st:St} {a:Act} {p:PV} {Q:Exit→Act→World→Prop},
  Qac P tk kp c=some cc→panCk pf cc=true→Inv g st a w→lim≤st.H.length→QbQ E EP lim L LP cc st=some p→PanQ g w lim st.H p Q→c.wp P Q a w
 |.region id ops draw,cc,g,w,st,a,p,Q,hc,hk,hinv,hlim,he,hQ=>by
  simp only[Qac]at hc
  obtain⟨cs,chk,fg,rfl⟩:=Qh9 hc
  simp only[QbQ]at he
  cases draw with
  |true=>exact hDP kp id ops cs chk fg lim g w st a p Q hc hk hinv hlim he hQ
  |false=>
   simp only[QaI,Option.bind_eq_bind,Option.pure_def,Option.bind_eq_some_iff]at hc
   obtain⟨cs',hcs,hc⟩:=hc
   simp at hc
   obtain⟨rfl,rfl,rfl⟩:=hc
   exact wp_region_list (Qij hE hP _ _ hcs hinv hlim he hQ)
 |.seq c d,cc,g,w,st,a,p,Q,hc,hk,hinv,hlim,he,hQ=>by
  simp only[Qac,Option.bind_eq_bind,Option.pure_def,Option.bind_eq_some_iff,Option.some.injEq]at hc
  obtain⟨c1,hc1,d1,hd1,rfl⟩:=hc
  have plain:panCk pf (.seq c1 d1)=true→QbQ E EP lim L LP (.seq c1 d1) st=some p→(Code.seq c d).wp P Q a w:=by
   intro hk he
   simp only[panCk,Bool.and_eq_true]at hk
   simp only[QbQ]at he
   split at he
   ·rename_i s1 h1
    refine wp_seq (Qao hE hD hL c c1 hc1 hinv hlim h1 fun g' a' w' hw hi hx=> ?_)
    exact QaN hE hD hP hDP hL hLP d d1 hd1 hk.2 hi (Nat.le_trans hlim hx.1) he (hQ.step hw hx)
   ·cases he
   ·exact wp_seq (QaN hE hD hP hDP hL hLP c c1 hc1 hk.1 hinv hlim he fun g' H' v a' w' k0 k1 kx k2 k3=>hQ g' H' v a' w' k0 k1 kx k2 k3)
  unfold QmP at he hk
  split at he
  ·rename_i id ops draw o q1 q2 r1 o1 x1 y1
   split at he
   ·rename_i hout
    dsimp only at hk
    rw[if_pos hout]at hk
    simp only[panCk,Bool.and_eq_true]at hk
    simp only[Qac,Option.bind_eq_bind,Option.pure_def,Option.bind_eq_some_iff,Option.some.injEq]at hc1
    obtain⟨r2,hr2,cc2,⟨o2,ho2,x2,hx2,y2,hy2,rfl⟩,hmk⟩:=hc1
    simp only[QmP,CCode.seq.injEq,CCode.cond.injEq]at hmk
    obtain⟨rfl,rfl,rfl,rfl⟩:=hmk
    simp only[QbQ]at he
    split at he
    ·rename_i s1 h1
     refine wp_seq (wp_seq (Qao hE hD hL (.region id ops draw) r2 (by rw[Qac];exact hr2) hinv hlim h1 fun g' a' w' hw hi hx=> ?_))
     have hv:=(QjK hi [] o o2 ho2).1
     have hQ1:=hQ.step hw hx
     split at he
     ·rename_i t ht
      rw[ht]at hv
      refine wp_cond (QcV hv) ?_
      cases t with
      |true=>exact QaN hE hD hP hDP hL hLP q1 x2 hx2 hk.2.1 hi (Nat.le_trans hlim hx.1) (by simpa using he) fun g'' H'' v a'' w'' k0 k1 kx k2 k3=>hQ1 g'' H'' v a'' w'' k0 k1 kx k2 k3
      |false=>
       simp only[Bool.false_eq_true,if_false]at he
       split at he
       ·rename_i s3 h3
        refine Qao hE hD hL q2 y2 hy2 hi (Nat.le_trans hlim hx.1) h3 fun g'' a'' w'' hw' hi' hx'=> ?_
        exact QaN hE hD hP hDP hL hLP d d1 hd1 hk.2.2.2 hi' (Nat.le_trans hlim (Nat.le_trans hx.1 hx'.1)) he (hQ1.step hw' hx')
       ·cases he
       ·exact QaN hE hD hP hDP hL hLP q2 y2 hy2 hk.2.2.1 hi (Nat.le_trans hlim hx.1) he fun g'' H'' v a'' w'' k0 k1 kx k2 k3=>hQ1 g'' H'' v a'' w'' k0 k1 kx k2 k3
     ·cases he
    ·cases he
    ·exact wp_seq (wp_seq (QaN hE hD hP hDP hL hLP (.region id ops draw) r2 (by rw[Qac];exact hr2) hk.1 hinv hlim he fun g' H' v a' w' k0 k1 kx k2 k3=>hQ g' H' v a' w' k0 k1 kx k2 k3))
   ·rename_i hout
    dsimp only at hk
    rw[if_neg hout]at hk
    exact plain hk he
  ·rename_i hno
   refine plain ?_ he
   split at hk
   ·rename_i _ _ _ _ _ _ _ _ _ _ _ _
    exact absurd rfl (hno _ _ _ _ _ _ _ _ _ _ rfl)
   ·exact hk
 |.cond c d e,cc,g,w,st,a,p,Q,hc,hk,hinv,hlim,he,hQ=>by
  simp only[Qac,Option.bind_eq_bind,Option.pure_def,Option.bind_eq_some_iff,Option.some.injEq]at hc
  obtain⟨c1,hc1,d1,hd1,e1,he1,rfl⟩:=hc
  simp only[panCk,Bool.and_eq_true]at hk
  simp only[QbQ]at he
  split at he
  ·rename_i t ht
   have hv:=(QjK hinv [] c c1 hc1).1
   rw[ht]at hv
   refine wp_cond (QcV hv) ?_
   cases t with
   |true=>exact QaN hE hD hP hDP hL hLP d d1 hd1 hk.1 hinv hlim (by simpa using he) hQ
   |false=>exact QaN hE hD hP hDP hL hLP e e1 he1 hk.2 hinv hlim (by simpa using he) hQ
  ·cases he
 |.block id c,cc,g,w,st,a,p,Q,hc,hk,hinv,hlim,he,hQ=>by
  simp only[Qac,Option.bind_eq_bind,Option.pure_def,Option.bind_eq_some_iff,Option.some.injEq]at hc
  obtain⟨c1,hc1,rfl⟩:=hc
  simp only[QbQ]at he
  exact wp_block (QaN hE hD hP hDP hL hLP c c1 hc1 (by simpa only[panCk]using hk) hinv hlim he fun g' H' v a' w' k0 k1 kx k2 k3=>hQ g' H' v a' w' k0 k1 kx k2 k3)
 |.loop c,cc,g,w,st,a,p,Q,hc,hk,hinv,hlim,he,hQ=>by
  simp only[Qac,Option.bind_eq_bind,Option.pure_def,Option.bind_eq_some_iff,Option.some.injEq]at hc
  obtain⟨c1,hc1,rfl⟩:=hc
  have hk1:panCk pf c1=true:=by simpa only[panCk]using hk
  simp only[QbQ]at he
  obtain⟨n,hn⟩:=hLP _ _ _ he
  refine QfU ?_
  have key:∀(n:Nat) {g:Gh} {w:World} {st:St} {a:Act},Inv g st a w→lim≤st.H.length→
    Qas (fun s=>match evalC E lim L c1 s with
     |some (.normal,s')=>some (.inl s')
     |some _=>none
     |none=>match QbQ E EP lim L LP c1 s with
      |some r=>some (.inr r)
      |none=>none) n st=some p→PanQ g w lim st.H p Q→Qe8 P c Q a w:=by
   intro n
   induction n with
   |zero=>intro g w st a _ _ h;simp[Qas]at h
   |succ n ih=>
    intro g w st a hinv hlim h hQ
    simp only[Qas]at h
    split at h
    ·rename_i s1 h1
     split at h1
     ·rename_i s2 h2
      simp only[Option.some.injEq,Sum.inl.injEq]at h1;subst h1
      refine Qca (Qao hE hD hL c c1 hc1 hinv hlim h2 fun g' a' w' hw hi hx=> ?_)
      exact ih hi (Nat.le_trans hlim hx.1) h (hQ.step hw hx)
     ·cases h1
     ·split at h1<;>simp at h1
    ·rename_i r h1
     simp only[Option.some.injEq]at h;subst h
     split at h1
     ·simp at h1
     ·cases h1
     ·split at h1
      ·rename_i r' h2
       simp only[Option.some.injEq,Sum.inr.injEq]at h1;subst h1
       exact Qca (QaN hE hD hP hDP hL hLP c c1 hc1 hk1 hinv hlim h2 fun g' H' v a' w' k0 k1 kx k2 k3=>hQ g' H' v a' w' k0 k1 kx k2 k3)
      ·cases h1
    ·cases h
  exact key n hinv hlim hn hQ
 |.scope c,cc,g,w,st,a,p,Q,hc,hk,hinv,hlim,he,hQ=>by
  simp only[Qac]at hc
  exact wp_scope_straight (QaN hE hD hP hDP hL hLP c cc hc hk hinv hlim he fun g' H' v a' w' k0 k1 kx k2 k3=>hQ g' H' v a' w' k0 k1 kx k2 k3)
 |.skip,cc,g,w,st,a,p,Q,hc,hk,hinv,hlim,he,hQ=>by simp only[Qac,Option.some.injEq]at hc;subst hc;simp[QbQ]at he
 |.label _,cc,g,w,st,a,p,Q,hc,hk,hinv,hlim,he,hQ=>by simp only[Qac,Option.some.injEq]at hc;subst hc;simp[QbQ]at he
 |.exit id,cc,g,w,st,a,p,Q,hc,hk,hinv,hlim,he,hQ=>by simp only[Qac,Option.some.injEq]at hc;subst hc;simp[QbQ]at he
 |.ret,cc,g,w,st,a,p,Q,hc,hk,hinv,hlim,he,hQ=>by simp only[Qac,Option.some.injEq]at hc;subst hc;simp[QbQ]at he
 |.goto _,cc,g,w,st,a,p,Q,hc,hk,hinv,hlim,he,hQ=>by simp[Qac]at hc
end
end Go.Abs
namespace Go.Abs
open Go.RowKit
variable [Tab] [Dfr]
structure SW (ops:Array Oper) (cs:List COper):Prop where
 cons:∀(i:Nat) c,cs[i]? =some c→∀t∈c.cons,t∈c.reads
 share:∀(i j:Nat) c d,i<j→cs[i]? =some c→cs[j]? =some d→sharesSlot c d=true→Anc ops i j
section
variable {P:Program} {E:Qa0} {EP:QeP} {tk:FuncId→Nat→Bool} {ops:Array Oper} {cs:List COper} {lim:Nat} {st st':St}
theorem QeR(hS:SW ops cs){i j t:Nat}(hi:(QaB E lim cs st i).touches t=true){d:COper}(hd:cs[j]? =some d)(ht:d.dst=some t∨t∈d.cons):
  (i<j→Anc ops i j)∧(j<i→Anc ops j i):=by
 obtain⟨c,hc,h⟩:=QdQ hi
 have both:sharesSlot c d=true∧sharesSlot d c=true:=by
  rcases h with h|h<;>rcases ht with ht|ht
  ·exact⟨sh3 h ht,sh3 ht h⟩
  ·exact⟨sh1 h (hS.cons j d hd t ht),sh2 h (hS.cons j d hd t ht)⟩
  ·exact⟨sh2 ht (hS.cons i c hc t h),sh1 ht (hS.cons i c hc t h)⟩
  ·exact⟨sh4 h ht,sh4 ht h⟩
 exact⟨fun hij=>hS.share i j c d hij hc hd both.1,fun hji=>hS.share j i d c hji hd hc both.2⟩
theorem Qjm(hS:SW ops cs){i j t:Nat}(hi:(QaB E lim cs st i).bare.touches t=true){d:COper}(hd:cs[j]? =some d)(ht:t∈d.reads):
  (i<j→Anc ops i j)∧(j<i→Anc ops j i):=by
 obtain⟨c,hc,h⟩:=QhQ hi
 exact⟨fun hij=>hS.share i j c d hij hc hd (sh1 h ht),fun hji=>hS.share j i d c hji hd hc (sh2 h ht)⟩
theorem agreeW(hS:SW ops cs){l:List Nat}{i:Nat}{c:COper}(hc:cs[i]? =some c)(hi:i∉l)(hanc:∀j,Anc ops j i→j∈l)(hno:∀k∈l,¬Anc ops i k)
  (hl:∀t,l.Pairwise fun i j=>(QaB E lim cs st i).touches t=true→(QaB E lim cs st j).touches t=true→i<j)(T:List AV):
  (∀t,t∈c.cons→(Qau (QaB E lim cs st) l T)[t]? =(Qau (QaB E lim cs st) (List.range i) T)[t]?)∧
  ∀t∈c.reads,((Qau (QaB E lim cs st) l T)[t]?).map AV.unf=((Qau (QaB E lim cs st) (List.range i) T)[t]?).map AV.unf:=by
 constructor
 ·intro t ht
  refine Qc3 (hl t) (QbM _ (fun i j h _ _=>h) i) (fun k hk=> ?_) T
  obtain⟨h1,h2⟩:=QeR hS hk hc (.inr ht)
  rw[List.mem_range]
  constructor
  ·intro hkl
   rcases Nat.lt_trichotomy k i with h|h|h
   ·exact h
   ·subst h;exact absurd hkl hi
   ·exact absurd (h2 h) (hno k hkl)
  ·intro h;exact hanc k (h1 h)
 ·intro t ht
  rw[Qdq _ t l T T rfl,Qdq _ t (List.range i) T T rfl]
  refine congrArg _ (Qc3 ?_ (QbM _ (fun i j h _ _=>h) i) (fun k hk=> ?_) T)
  ·refine List.Pairwise.imp ?_ (hl t)
   intro a b hab ha hb
   have up:∀k,(QaB E lim cs st k).bare.touches t=true→(QaB E lim cs st k).touches t=true:=fun k hk=>by
    simp only[SOp.bare,SOp.touches,Bool.or_eq_true,beq_iff_eq]at hk⊢
    exact .inl (hk.resolve_right (by simp))
   exact hab (up a ha) (up b hb)
  ·obtain⟨h1,h2⟩:=Qjm hS hk hc ht
   rw[List.mem_range]
   constructor
   ·intro hkl
    rcases Nat.lt_trichotomy k i with h|h|h
    ·exact h
    ·subst h;exact absurd hkl hi
    ·exact absurd (h2 h) (hno k hkl)
   ·intro h;exact hanc k (h1 h)
theorem QgO(hS:SW ops cs){listed:Array Bool}{l:List Nat}(h:Play ops E lim cs st listed l){i:Nat}(hi:i<ops.size)(hil:i∉l)(hanc:∀j,Anc ops j i→j∈l)(hno:∀k∈l,¬Anc ops i k):
  Play ops E lim cs st (listed.setIfInBounds i true) (l++ [i]) where
 size:=by simp[h.size]
 mem j hj:=by
  rw[List.mem_append,List.mem_singleton]
  by_cases hij:i=j
  ·subst hij
   have:i<listed.size:=by rw[h.size];exact hi
   simp[this]
  ·rw[getD_set_ne true hij,h.mem j hj]
   exact⟨.inl,fun h=>h.resolve_right (Ne.symm hij)⟩
 closed k o hk ho e he hb:=by
  rw[List.mem_append]at hk⊢
  rcases hk with hk|hk
  ·exact .inl (h.closed k o hk ho e he hb)
  ·rw[List.mem_singleton]at hk;subst hk
   exact .inl (hanc _ (.edge _ o e ho he hb))
 order t:=by
  rw[List.pairwise_append]
  refine⟨h.order t,by simp,fun k hk j hj=> ?_⟩
  rw[List.mem_singleton]at hj;subst hj
  intro hkt hjt
  obtain⟨c,hc,ht⟩:=QdQ hjt
  obtain⟨_,h2⟩:=QeR hS hkt hc ht
  rcases Nat.lt_trichotomy k j with h|h|h
  ·exact h
  ·subst h;exact absurd hk hil
  ·exact absurd (h2 h) (hno k hk)
theorem QdS{p i:Nat}(h:i<p):(cs.take p)[i]? =cs[i]? :=List.getElem?_take_of_lt h
theorem Qfi{p k:Nat}(h:k<p):QaB E lim (cs.take p) st k=QaB E lim cs st k:=by
 unfold QaB QbE Qbx
 rw[QdS h,List.take_take,Nat.min_eq_left (Nat.le_of_lt h)]
theorem Qc4{F G:Nat→SOp}:∀(l:List Nat) (T:List AV),(∀k∈l,F k=G k)→Qau F l T=Qau G l T
 | [],_,_=>rfl
 |x::l,T,h=>by
  show Qau F l ((F x).run T)=Qau G l ((G x).run T)
  rw[h x (by simp)]
  exact Qc4 l _ fun k hk=>h k (by simp[hk])
theorem sw_take(hS:Static P tk ops cs)(p:Nat):SW ops (cs.take p) where
 cons i c hc:=hS.cons i c (by
  rw[List.getElem?_take]at hc
  split at hc
  ·exact hc
  ·cases hc)
 share i j c d hij hc hd:=by
  have e:∀ {k:Nat} {x:COper},(cs.take p)[k]? =some x→cs[k]? =some x:=fun{k x} h=>by
   rw[List.getElem?_take]at h
   split at h
   ·exact h
   ·cases h
  exact hS.share i j c d hij (e hc) (e hd)
theorem anc_lt(hS:Static P tk ops cs){i j:Nat}(h:Anc ops i j):i<j:=by
 induction h with
 |edge k o e ho he hb=>exact hS.back k o ho e he hb
 |trans k j' o e ho he hb _ ih=>exact Nat.lt_trans ih (hS.back k o ho e he hb)
theorem QaT:∀(ns:List Nat) (T:List AV) (i:Nat),i∉ns→(forgetT T ns)[i]? =T[i]?
 | [],T,i,_=>rfl
 |n::ns,T,i,h=>by
  simp only[List.mem_cons,not_or]at h
  simp only[forgetT]
  rw[QaT ns _ i h.2,List.getElem?_set_ne (fun q=>h.1 q.symm)]
theorem QeF:∀(ns:List Nat) (T:List AV) (i:Nat) (v:AV),i∉ns→forgetT (T.set i v) ns=(forgetT T ns).set i v
 | [],T,i,v,_=>rfl
 |n::ns,T,i,v,h=>by
  simp only[List.mem_cons,not_or]at h
  simp only[forgetT]
  rw[List.set_comm _ _ h.1,QeF ns _ i v h.2]
theorem Qd8:∀(cons:List Nat) (T:List AV) (F:List Nat),(∀t∈cons,t∉F)→forgetT (unflag T cons) F=unflag (forgetT T F) cons
 | [],T,F,_=>rfl
 |n::ns,T,F,h=>by
  simp only[unflag]
  rw[Qd8 ns _ F fun t ht=>h t (by simp[ht]),QeF _ _ _ _ (h n (by simp))]
  have:(forgetT T F).getD n .undef=T.getD n .undef:=by simp only[List.getD];rw[QaT F T n (h n (by simp))]
  rw[this]
theorem QhN{F:List Nat}{b:COper}(h:QdM F b=true):(∀t∈b.reads,t∉F)∧(∀t∈b.cons,t∉F)∧∀d,b.dst=some d→d∉F:=by
 simp only[QdM,List.all_eq_true,Bool.and_eq_true,Bool.not_eq_true',bne_iff_ne]at h
 refine⟨fun t ht hf=> ?_,fun t ht hf=> ?_,fun d hd hf=>(h d hf).1.2 hd⟩
 ·have:=(h t hf).1.1
  have h2:b.reads.contains t=true:=by simpa using ht
  rw[h2]at this;cases this
 ·have:=(h t hf).2
  have h2:b.cons.contains t=true:=by simpa using ht
  rw[h2]at this;cases this
theorem Qjf{F:List Nat}{c:COper}(hF:QdM F c=true){T T':List AV}{h h':Qab}(hs:stepOp E lim c ⟨T,h⟩=some ⟨T',h'⟩):stepOp E lim c ⟨forgetT T F,h⟩=some ⟨forgetT T' F,h'⟩:=by
 obtain⟨c1,c2,c3⟩:=QhN hF
 have hw:wanted (forgetT T F) c.guard=wanted T c.guard:=by
  cases hg:c.guard with
  |none=>rfl
  |some p=>
   have:p.1∉F:=c1 p.1 (by simp[COper.reads,hg])
   unfold wanted
   simp only[List.getD]
   rw[QaT F T _ this]
 have hev:∀x∈c.op.opds,evx (forgetT T F) c.cons x=evx T c.cons x:=fun x hx=>Qd9 (fun t ht=>QaT F T t (c2 t ht)) fun t ht=>by
  rw[QaT F T t (c1 t (by simp only[COper.reads,List.mem_append,List.mem_flatMap];exact .inl ⟨x,hx,ht⟩))]
 have ha:=Qdn (E:=E) (lim:=lim) (H:=h) hev
 have hp:∀(T:List AV) (v:AV),put (forgetT T F) c.dst v=forgetT (put T c.dst v) F:=fun T v=>by
  cases hd:c.dst with
  |none=>rfl
  |some d=>simp only[put];rw[QeF _ _ _ _ (c3 d hd)]
 unfold stepOp at hs⊢
 simp only[hw,ha]
 split at hs
 ·rename_i h1
  simp only[h1]
  split at hs
  ·rename_i h2
   simp only at h2
   simp only[Option.some.injEq,St.mk.injEq]at hs
   obtain⟨rfl,rfl⟩:=hs
   simp only[h2]
   rw[←hp,Qd8 _ _ _ c2]
  ·cases hs
 ·rename_i h1
  simp only[h1]
  simp only[Option.some.injEq,St.mk.injEq]at hs
  obtain⟨rfl,rfl⟩:=hs
  rw[←hp]
 ·cases hs
theorem Qhp{F:Nat→SOp}{n:Nat}:∀(l:List Nat) (T:List AV),(∀k∈l,(F k).dst≠some n)→((Qau F l T)[n]?).map AV.unf=(T[n]?).map AV.unf
 | [],T,_=>rfl
 |x::l,T,h=>by
  show((Qau F l ((F x).run T))[n]?).map AV.unf=_
  rw[Qhp l _ fun k hk=>h k (by simp[hk])]
  have hx:=h x (by simp)
  have h1:((F x).run T)[n]? =(unflag T (F x).cons)[n]? :=by
   simp only[SOp.run]
   cases hd:(F x).dst with
   |none=>rfl
   |some d=>simp only[put];rw[List.getElem?_set_ne (fun e=>hx (by rw[hd,e]))]
  rw[h1,Qcw]
  split
  ·cases T[n]? with
   |none=>rfl
   |some v=>simp only[Option.map_some];congr 1;cases v<;>rfl
  ·rfl
theorem QcQ{F:Nat→SOp}{q:Nat→Bool}:∀(l:List Nat) (T:List AV),(∀k∈l,q k=false→∀T,(F k).run T=T)→Qau F l T=Qau F (l.filter q) T
 | [],T,_=>rfl
 |x::l,T,h=>by
  show Qau F l ((F x).run T)=_
  cases hq:q x with
  |true=>
   rw[List.filter_cons_of_pos hq]
   exact QcQ l _ fun k hk=>h k (by simp[hk])
  |false=>
   rw[List.filter_cons_of_neg (by simp[hq]),h x (by simp) hq]
   exact QcQ l _ fun k hk=>h k (by simp[hk])
def Free(cs:List COper)(p:Nat)(F:List Nat)(i:Nat):Prop:=∃d off n j cj,cs[i]? =some ⟨some d,.fieldAddr off (.t n),none,[]⟩∧d∈F∧p<i∧j<p∧cs[j]? =some cj∧cj.op= .fieldAddr off (.t n)∧cj.guard=none∧cj.cons= []∧n∉F∧∀(k:Nat) c,cs[k]? =some c→c.dst≠some n
theorem QgT{c:COper}{T:List AV}{sp:St}{h:Qab}(h1:∀t,t∈c.cons→T[t]? =sp.T[t]?)(h2:∀t∈c.reads,(T[t]?).map AV.unf=(sp.T[t]?).map AV.unf):panO EP lim c ⟨T,h⟩=panO EP lim c ⟨sp.T,h⟩:=by
 have hw:wanted T c.guard=wanted sp.T c.guard:=by
  cases hg:c.guard with
  |none=>rfl
  |some p=>exact QgD (h2 p.1 (by simp[COper.reads,hg]))
 have hev:∀x∈c.op.opds,evx T c.cons x=evx sp.T c.cons x:=fun x hx=>Qd9 h1 fun t ht=>h2 t (by
  simp only[COper.reads,List.mem_append,List.mem_flatMap]
  exact .inl ⟨x,hx,ht⟩)
 unfold panO
 simp only[hw]
 split
 ·split
  ·rename_i x ho
   rw[hev x (by rw[ho];simp[COp.opds])]
  ·rename_i f args ho
   have:args.map (evx T c.cons)=args.map (evx sp.T c.cons):=List.map_congr_left fun x hx=>hev x (by rw[ho];simpa[COp.opds]using hx)
   rw[this]
  ·rfl
 ·rfl
theorem Qlv(hE:Qcn P E)(hP:∀f,PSound P f (EP f))(hS:Static P tk ops cs){p:Nat}{cp:COper}(hcp:cs[p]? =some cp){sp:St}(hr:runOps E lim (cs.take p) st=some sp)
  {F:List Nat}(hF:∀c∈cs.take (p+1),QdM F c=true)(htail:∀i,p<i→i<cs.length→Anc ops p i∨Free cs p F i){HG:List Nat→Qab→Prop}
  (hstart:HG [] st.H)(hstep:∀l h i,HG l h→i<p→i∉l→(∀j,Anc ops j i→j∈l)→(∀k∈l,¬Anc ops i k)→∃h',Qi4 E lim (cs.take p) st i h h'∧HG (l++ [i]) h')
  (hfree:∀l h i,HG l h→Free cs p F i→HG (l++ [i]) h)
  {pv:PV}(hpan:∀l h T,HG l h→(∀j,Anc ops j p→j∈l)→(∀k∈l,¬Anc ops p k)→(∀k∈l,k<p∨Free cs p F k)→lim≤h.length→
    (∀t∈cp.reads,(T[t]?).map AV.unf=(sp.T[t]?).map AV.unf)→(∀t,t∈cp.cons→T[t]? =sp.T[t]?)→panO EP lim cp ⟨T,h⟩=some pv)
  {Q:Exit→Act→World→Prop}{g0:Gh}{w0:World}(hQ:PanQ g0 w0 lim st.H pv Q):∀(fuel:Nat) (listed:Array Bool) (l:List Nat) (h:Qab) (g:Gh) (a:Act) (w:World),
  ((List.range ops.size).filter fun i=> !l.contains i).length≤fuel→Play ops E lim (cs.take p) st listed l→(∀i∈l,i<p∨Free cs p F i)→HG l h→WF g0 w0 g w→Ext lim st.H h→Inv g ⟨forgetT (Qau (QaB E lim (cs.take p) st) l st.T) F,h⟩ a w→lim≤h.length→wpAny P .any ops Q fuel listed a w:=by
 have hpl:p<cs.length:=(List.getElem?_eq_some_iff.1 hcp).1
 have hW:=sw_take hS p
 have hnp:∀ {l:List Nat},(∀i∈l,i<p∨Free cs p F i)→p∉l:=fun hlt hm=>by
  rcases hlt p hm with h|⟨_,_,_,_,_,_,_,h,_⟩
  ·exact absurd h (Nat.lt_irrefl _)
  ·exact absurd h (Nat.lt_irrefl _)
 have hcF:∀ {k:Nat} {c:COper},k≤p→cs[k]? =some c→QdM F c=true:=fun{k c} hk hc=>hF c (List.mem_of_getElem? (i:=k) (by rw[List.getElem?_take_of_lt (by omega)];exact hc))
 have hid:∀ {k:Nat},¬k<p→∀T,(QaB E lim (cs.take p) st k).run T=T:=fun{k} hk T=>by
  have:(cs.take p)[k]? =none:=List.getElem?_eq_none (by rw[List.length_take];omega)
  simp only[QaB,this,SOp.run,put,unflag]
 intro fuel
 induction fuel with
 |zero=>
  intro listed l h g a w hf hp hlt hg hw hxt hi hlim
  exfalso
  have e:(List.range ops.size).filter (fun i=> !l.contains i)= []:=List.eq_nil_of_length_eq_zero (by omega)
  rw[List.filter_eq_nil_iff]at e
  have:=e p (List.mem_range.2 (by rw[←hS.len];exact hpl))
  have hm:p∈l:=by simpa using this
  exact hnp hlt hm
 |succ fuel ih=>
  intro listed l h g a w hf hp hlt hg hw hxt hi hlim
  refine⟨fun hr0=> ?_,fun i hir=> ?_⟩
  ·exfalso
   have all:∀i,i<ops.size→i∈l:=by
    intro i
    induction i using Nat.strongRecOn with
    |_ i ihi=>
     intro his
     cases hli:listed.getD i true with
     |true=>exact(hp.mem i his).1 hli
     |false=>
      have:i∈Region.ready .any ops listed:=by
       rw[mem_ready]
       refine⟨hli,ops[i],Array.getElem?_eq_getElem his,fun e he hb=> ?_⟩
       have hlt':=hS.back i _ (Array.getElem?_eq_getElem his) e he hb
       have hes:e.on<ops.size:=by omega
       have hm:=(hp.mem e.on hes).2 (ihi e.on hlt' hes)
       have hsz:e.on<listed.size:=by rw[hp.size];exact hes
       simp only[Array.getD,hsz,dif_pos]at hm⊢
       exact hm
      rw[hr0]at this;cases this
   exact hnp hlt (all p (by rw[←hS.len];exact hpl))
  ·rw[mem_ready]at hir
   obtain⟨hli,o,ho,hedge⟩:=hir
   have his:i<ops.size:=(Array.getElem?_eq_some_iff.1 ho).1
   have hil:i∉l:=fun hm=>by have:=(hp.mem i his).2 hm;rw[hli]at this;cases this
   have hedge':∀o',ops[i]? =some o'→∀e∈o'.after,Region.binds .any e=true→e.on∈l:=by
    intro o' ho' e he hb
    rw[ho]at ho';injection ho' with ho';subst ho'
    have h1:=hedge e he hb
    have hes:e.on<ops.size:=by have:=hS.back i o ho e he hb;omega
    have hsz:e.on<listed.size:=by rw[hp.size];exact hes
    refine(hp.mem e.on hes).1 ?_
    simp only[Array.getD,hsz,dif_pos]at h1⊢
    exact h1
   have hanc:∀j,Anc ops j i→j∈l:=fun j hj=>QdA (listed:=fun k=>k∈l) (fun k o hk ho=>hp.closed k o hk ho) hj hedge'
   have hno:∀k∈l,¬Anc ops i k:=fun k hk hik=>hil (QdA (listed:=fun k=>k∈l) (fun k o hk ho=>hp.closed k o hk ho) hik (fun o ho=>hp.closed k o hk ho))
   have hcl:i<cs.length:=by rw[hS.len];exact his
   rcases Nat.lt_trichotomy i p with hip|hip|hip
   ·have hc:cs[i]? =some cs[i]:=List.getElem?_eq_getElem hcl
    have hct:(cs.take p)[i]? =some cs[i]:=by rw[QdS hip];exact hc
    obtain⟨h',hs,hg'⟩:=hstep l h i hg hip hil hanc hno
    have hag:=agreeW hW hct hil hanc hno hp.order st.T
    rw[←Qh2 hr i (by rw[List.length_take];omega)]at hag
    have hst:=Qjf (hcF (Nat.le_of_lt hip) hc) (QgH hr hct hag.1 hag.2 hs)
    have:=Qb3 (K:=wpAny P .any ops Q fuel (listed.setIfInBounds i true)) (Q:=Q) (hS.comp i o _ ho hc) hE hi hlim hst fun g' a' w' hw' hi' hx=> ?_
    ·unfold wpOp
     rw[ho]
     exact this
    ·refine ih _ (l++ [i]) h' g' a' w' ?_ (QgO hW hp his hil hanc hno) ?_ hg' (hw.trans hw') (hxt.trans hx) ?_ (Nat.le_trans hlim hx.1)
     ·have:=Qdi (p:=fun k=> !l.contains k) (q:=fun k=> !(l++ [i]).contains k) (List.range ops.size) (fun x hx=>by simp at hx⊢;exact hx.1) i (List.mem_range.2 his) (by simp[hil]) (by simp)
      omega
     ·intro k hk
      rw[List.mem_append,List.mem_singleton]at hk
      rcases hk with hk|rfl
      ·exact hlt k hk
      ·exact .inl hip
     ·have e:Qau (QaB E lim (cs.take p) st) (l++ [i]) st.T=(QaB E lim (cs.take p) st i).run (Qau (QaB E lim (cs.take p) st) l st.T):=by simp[Qau]
      rw[e]
      exact hi'
   ·subst hip
    have e0:Qau (QaB E lim (cs.take i) st) l st.T=Qau (QaB E lim (cs.take i) st) (l.filter fun k=>decide (k<i)) st.T:=QcQ l _ fun k _ hq=>hid (of_decide_eq_false hq)
    have hlt':∀k∈l.filter (fun k=>decide (k<i)),k<i:=fun k hk=>of_decide_eq_true (List.mem_filter.1 hk).2
    have e1:Qau (QaB E lim (cs.take i) st) (l.filter fun k=>decide (k<i)) st.T=Qau (QaB E lim cs st) (l.filter fun k=>decide (k<i)) st.T:=Qc4 _ _ fun k hk=>Qfi (hlt' k hk)
    have e2:Qau (QaB E lim cs st) (List.range i) st.T=sp.T:=by
     rw[←Qc4 (F:=QaB E lim (cs.take i) st) (List.range i) _ fun k hk=>Qfi (List.mem_range.1 hk),←Qh2 hr i (by rw[List.length_take];omega),QdU hr (by rw[List.length_take];omega)]
    have ord:∀t,(l.filter fun k=>decide (k<i)).Pairwise fun a b=>(QaB E lim cs st a).touches t=true→(QaB E lim cs st b).touches t=true→a<b:=fun t=>by
     refine List.Pairwise.imp_of_mem ?_ (List.Pairwise.filter _ (hp.order t))
     intro a b ha hb hab
     rw[Qfi (hlt' a ha),Qfi (hlt' b hb)]at hab
     exact hab
    have hag:=agree hS hcp (fun hm=>hil (List.mem_filter.1 hm).1) (fun j hj=>List.mem_filter.2 ⟨hanc j hj,decide_eq_true (anc_lt hS hj)⟩) (fun k hk=>hno k (List.mem_filter.1 hk).1) ord st.T
    rw[e2,←e1,←e0]at hag
    have hpn:=hpan l h _ hg hanc hno hlt hlim hag.2 hag.1
    obtain⟨c1,c2,_⟩:=QhN (hcF (Nat.le_refl _) hcp)
    have hpn:panO EP lim cp ⟨forgetT (Qau (QaB E lim (cs.take i) st) l st.T) F,h⟩=some pv:=
     (QgT (sp:=⟨Qau (QaB E lim (cs.take i) st) l st.T,h⟩) (fun t ht=>QaT F _ t (c2 t ht)) (fun t ht=>by rw[QaT F _ t (c1 t ht)])).trans hpn
    obtain⟨k1,k2⟩:=QgS (K:=wpAny P .any ops Q fuel (listed.setIfInBounds i true)) (hS.comp i o _ ho hcp) hP hi hlim hpn (hQ.step hw hxt)
    unfold wpOp
    rw[ho]
    show if Region.wanted o (yielded ops a.tmps)then _ else _
    rw[if_pos k1]
    exact .inl k2
   ·rcases htail i hip hcl with hpi|hfr
    ·exact absurd (hanc p hpi) (hnp hlt)
    ·have hfr':=hfr
     obtain⟨d,off,n,j,cj,hc,hdF,_,hjp,hcj,hop,hgd,hcn,hnF,hnd⟩:=hfr
     have hcjt:(cs.take p)[j]? =some cj:=by rw[QdS hjp];exact hcj
     have dst_ne:∀k,(QaB E lim (cs.take p) st k).dst≠some n:=fun k hk=>by
      have hb:(QaB E lim (cs.take p) st k).bare.touches n=true:=by simp[SOp.bare,SOp.touches,hk]
      obtain⟨c,hc',hd'⟩:=QhQ hb
      rw[List.getElem?_take]at hc'
      split at hc'
      ·exact hnd k c hc' hd'
      ·cases hc'
     have hval:∃v,∀K,aop E lim K (evx (forgetT (Qau (QaB E lim (cs.take p) st) l st.T) F) []) (.fieldAddr off (.t n))=some (v,K):=by
      have hst:=QdT hr hcjt
      obtain⟨_,s2,s3⟩:=Qfh hst
      have hT:=Qh2 hr j (by rw[List.length_take];omega)
      cases hv:Qgx E lim cj (Qbx E lim (cs.take p) st j)with
      |none=>have:=(s3 hv).2;rw[hgd]at this;cases this
      |some v=>
       have ha:=(s2 v hv).1
       rw[hop,hcn]at ha
       have hk:=(QeO (o:= .fieldAddr off (.t n)) rfl ha).2
       refine⟨v,fun K=> ?_⟩
       rw[←hk K]
       refine Qdn fun x hx=> ?_
       simp only[COp.opds,List.mem_singleton]at hx;subst hx
       refine Qd9 (fun t ht=>by cases ht) fun t ht=> ?_
       simp only[Opd.slots,List.mem_singleton]at ht;subst ht
       rw[QaT F _ t hnF,Qhp _ _ fun k _=>dst_ne k,hT,Qhp _ _ fun k _=>dst_ne k]
     obtain⟨v,hv⟩:=hval
     have hst:stepOp E lim ⟨some d,.fieldAddr off (.t n),none,[]⟩ ⟨forgetT (Qau (QaB E lim (cs.take p) st) l st.T) F,h⟩=some ⟨(forgetT (Qau (QaB E lim (cs.take p) st) l st.T) F).set d v,h⟩:=by
      simp only[stepOp,wanted,hv,put,unflag]
     have:=Qb3 (K:=wpAny P .any ops Q fuel (listed.setIfInBounds i true)) (Q:=Q) (hS.comp i o _ ho hc) hE hi hlim hst fun g' a' w' hw' hi' hx=> ?_
     ·unfold wpOp
      rw[ho]
      exact this
     ·refine ih _ (l++ [i]) h g' a' w' ?_ (QgO hW hp his hil hanc hno) ?_ (hfree l h i hg hfr') (hw.trans hw') hxt ?_ hlim
      ·have:=Qdi (p:=fun k=> !l.contains k) (q:=fun k=> !(l++ [i]).contains k) (List.range ops.size) (fun x hx=>by simp at hx⊢;exact hx.1) i (List.mem_range.2 his) (by simp[hil]) (by simp)
       omega
      ·intro k hk
       rw[List.mem_append,List.mem_singleton]at hk
       rcases hk with hk|rfl
       ·exact hlt k hk
       ·exact .inr hfr'
      ·have e:Qau (QaB E lim (cs.take p) st) (l++ [i]) st.T=Qau (QaB E lim (cs.take p) st) l st.T:=by
        have:Qau (QaB E lim (cs.take p) st) (l++ [i]) st.T=(QaB E lim (cs.take p) st i).run (Qau (QaB E lim (cs.take p) st) l st.T):=by simp[Qau]
        rw[this,hid (by omega)]
       rw[e]
       refine Qd6 hi' (by simp) fun k z hz=> ?_
       by_cases hkd:k=d
       ·subst hkd
        left
        have hu:∀(ns:List Nat) (T:List AV),k∈ns→(forgetT T ns)[k]? =some z→z= .undef:=by
         intro ns
         induction ns with
         |nil=>intro T hm;cases hm
         |cons n ns ihn=>
          intro T hm hz
          simp only[forgetT]at hz
          by_cases hk2:k∈ns
          ·exact ihn _ hk2 hz
          ·obtain rfl:k=n:=by
            rcases List.mem_cons.1 hm with h|h
            ·exact h
            ·exact absurd h hk2
           rw[QaT ns _ k hk2]at hz
           obtain⟨hl,e⟩:=List.getElem?_eq_some_iff.1 hz
           rw[←e];simp
        exact hu F _ hdF hz
       ·right;rw[List.getElem?_set_ne (fun e=>hkd e.symm)];exact hz
end
theorem anc_tr{ops:Array Oper}{i j:Nat}(h:Anc ops i j):∀ {k:Nat},Anc ops j k→Anc ops i k:=by
 intro k hk
 induction hk with
 |edge k o e ho he hb=>exact .trans k i o e ho he hb h
 |trans k j' o e ho he hb _ ih=>exact .trans k i o e ho he hb (ih h)
section
variable {P:Program} {E:Qa0} {EP:QeP} {tk:FuncId→Nat→Bool} {ops:Array Oper} {cs:List COper} {lim:Nat} {st:St}
theorem Qhm(hS:Static P tk ops cs){p:Nat}{pre:List COper}{dsts:List Nat}:∀(rest:List COper) (S:List COper) (k:Nat) (F:List Nat),cs.drop k=rest→(∀d∈S,∃i,cs[i]? =some d∧i<k∧(i=p∨Anc ops p i))→QkX pre dsts S rest=some F→
  ∀i,k≤i→i<cs.length→Anc ops p i∨∃c d,cs[i]? =some c∧QkD pre dsts c=some d∧d∈F
 | [],S,k,F,hd,hS',ht,i,hki,hil=>by
   have:=congrArg List.length hd
   simp at this;omega
 |c::rest,S,k,F,hd,hS',ht,i,hki,hil=>by
  simp only[QkX]at ht
  have hck:cs[k]? =some c:=by
   have:=congrArg (fun l=>l[0]?) hd
   simpa[List.getElem?_drop]using this
  have hnext:cs.drop (k+1)=rest:=by rw[←List.drop_drop,hd];rfl
  split at ht
  ·rename_i hsh
   rw[List.any_eq_true]at hsh
   obtain⟨d,hdS,hsh⟩:=hsh
   obtain⟨j,hj,hjk,hjp⟩:=hS' d hdS
   have hjc:=hS.share j k d c hjk hj hck hsh
   have hpk:Anc ops p k:=by
    rcases hjp with rfl|h
    ·exact hjc
    ·exact anc_tr h hjc
   rcases Nat.lt_or_ge k i with h|h
   ·refine Qhm hS rest (S++ [c]) (k+1) F hnext (fun d hd=> ?_) ht i h hil
    rw[List.mem_append,List.mem_singleton]at hd
    rcases hd with hd|rfl
    ·obtain⟨i,h1,h2,h3⟩:=hS' d hd
     exact⟨i,h1,by omega,h3⟩
    ·exact⟨k,hck,by omega,.inr hpk⟩
   ·obtain rfl:i=k:=by omega
    exact .inl hpk
  ·split at ht
   ·rename_i d ds hf ht2
    simp only[Option.some.injEq]at ht;subst ht
    rcases Nat.lt_or_ge k i with h|h
    ·rcases Qhm hS rest S (k+1) ds hnext (fun d hd=>by obtain⟨i,h1,h2,h3⟩:=hS' d hd;exact⟨i,h1,by omega,h3⟩) ht2 i h hil with h|⟨c',d',q1,q2,q3⟩
     ·exact .inl h
     ·exact .inr ⟨c',d',q1,q2,by simp[q3]⟩
    ·obtain rfl:i=k:=by omega
     exact .inr ⟨c,d,hck,hf,by simp⟩
   ·cases ht
theorem free_of{pre:List COper}{dsts:List Nat}{c:COper}{d:Nat}(h:QkD pre dsts c=some d):∃off n b,c=⟨some d,.fieldAddr off (.t n),none,[]⟩∧b∈pre∧b.op= .fieldAddr off (.t n)∧b.guard=none∧b.cons= []∧n∉dsts:=by
 unfold QkD at h
 split at h
 ·rename_i d' off n
  split at h
  ·rename_i hc
   simp only[Option.some.injEq]at h;subst h
   rw[Bool.and_eq_true,List.any_eq_true]at hc
   obtain⟨⟨b,hb,hm⟩,hn⟩:=hc
   split at hm
   ·rename_i dd off' n'
    rw[Bool.and_eq_true,beq_iff_eq,beq_iff_eq]at hm
    obtain⟨rfl,rfl⟩:=hm
    exact⟨_,_,_,rfl,hb,rfl,rfl,rfl,by simpa using hn⟩
   ·cases hm
  ·cases h
 ·cases h
theorem Qb5{p k i:Nat}(h:Qaq (cs.take p) k i):Qaq cs k i∧i<p:=by
 obtain⟨c,hc,h2⟩:=h
 rw[List.getElem?_take]at hc
 split at hc
 ·rename_i hip;exact⟨⟨c,hc,h2⟩,hip⟩
 ·cases hc
theorem Qfw:∀ {cs:List COper} {st:St} {recs:List Rec} {o:COper} {s:St},traceP E lim cs st=some (recs,o,s)→cs[recs.length]? =some o∧traceOps E lim (cs.take recs.length) st=some (recs,s)
 | [],st,recs,o,s,h=>by cases h
 |c::cs,st,recs,o,s,h=>by
  simp only[traceP]at h
  split at h
  ·rename_i r st1 h1
   split at h
   ·rename_i rs c2 s2 h2
    simp only[Option.some.injEq,Prod.mk.injEq]at h
    obtain⟨rfl,rfl,rfl⟩:=h
    obtain⟨q1,q2⟩:=Qfw h2
    refine⟨by simpa using q1, ?_⟩
    simp only[List.length_cons,List.take_succ_cons,traceOps,h1,q2]
   ·cases h
  ·simp only[Option.some.injEq,Prod.mk.injEq]at h
   obtain⟨rfl,rfl,rfl⟩:=h
   exact⟨rfl,rfl⟩
theorem Qhu{pf:FuncId→Bool}{b:Bool}{dsts:List Nat}:∀ {l pre:List COper},Qms pf b dsts pre l=true→∀ {i:Nat} {o:COper},l[i]? =some o→o.may pf=true→
  (∃F,QkX (pre++l.take i) dsts [o] (l.drop (i+1))=some F∧∀c∈pre++l.take (i+1),QdM F c=true)∧(b=true∨o.op.isCall=true∨∀c∈pre++l.take i,QbB c.op≠2)
 | [],_,_,i,o,h,_=>by simp at h
 |c::l,pre,hs,i,o,h,hm=>by
  simp only[Qms,Bool.and_eq_true,Bool.or_eq_true,Bool.not_eq_true',List.all_eq_true,bne_iff_ne]at hs
  cases i with
  |zero=>
   simp only[List.getElem?_cons_zero,Option.some.injEq]at h;subst h
   rcases hs.1 with h1|h1
   ·rw[hm]at h1;cases h1
   ·refine⟨?_, ?_⟩
    ·have h2:=h1.1
     split at h2
     ·rename_i F hF
      rw[List.all_eq_true]at h2
      exact⟨F,by simpa using hF,fun c hc=>h2 c (by simpa using hc)⟩
     ·cases h2
    ·rcases h1.2 with(h2|h2)|h2
     ·exact .inl h2
     ·exact .inr (.inl h2)
     ·exact .inr (.inr (by simpa using h2))
  |succ i=>
   obtain⟨⟨F,q0,q1⟩,q2⟩:=Qhu hs.2 (i:=i) (by simpa using h) hm
   exact⟨⟨F,by simpa[List.append_assoc]using q0,fun c' hc'=>q1 c' (by simpa[List.append_assoc]using hc')⟩,q2.imp id fun q=>q.imp id fun q c' hc'=>q c' (by simpa[List.append_assoc]using hc')⟩
theorem pvBeq_eq{x y:PV}(h:pvBeq x y=true):x=y:=by
 simp only[pvBeq,Bool.and_eq_true,beq_iff_eq]at h
 exact Prod.ext h.1 ((D.beq_iff _ _).1 h.2)
theorem QhI{p:Nat}{recs:List Rec}{sp:St}(hpl:p≤cs.length)(htr:traceOps E lim (cs.take p) st=some (recs,sp)){c:Chk}(hes:∀i,i∈c.es↔Qaq cs 2 i)(hrs:∀i,i∈c.rs↔Qaq cs 1 i)
  (hanc:∀i j,(j,i)∈c.anc→Anc ops i j){ok:Qab→Bool}{l:List Nat}{h:Qab}{i:Nat}(hg:∃k S,exploreP E lim recs c p ok k S h=true∧(∀e∈S,e∈c.es)∧∀e∈c.es,e∈S↔e∈l)
  (hip:i<p)(hil:i∉l)(hbef:∀j,Anc ops j i→j∈l)(hno:∀k∈l,¬Anc ops i k):
  ∃h',Qi4 E lim (cs.take p) st i h h'∧∃k S,exploreP E lim recs c p ok k S h'=true∧(∀e∈S,e∈c.es)∧∀e∈c.es,e∈S↔e∈l++ [i]:=by
 obtain⟨k,S,hx,hS,hl⟩:=hg
 have hr:=Qa2 _ htr
 have hic:i<(cs.take p).length:=by rw[List.length_take];omega
 have hc:cs[i]? =some cs[i]:=List.getElem?_eq_getElem (by omega)
 have hct:(cs.take p)[i]? =some cs[i]:=by rw[QdS hip];exact hc
 cases k with
 |zero=>simp[exploreP]at hx
 |succ k=>
  have same:i∉c.es→∀e∈c.es,e∈S↔e∈l++ [i]:=fun hn e he=>by
   rw[hl e he,List.mem_append,List.mem_singleton]
   exact⟨.inl,fun h=>h.resolve_right fun h=>hn (h▸he)⟩
  have notes:∀q,QbB cs[i].op=q→q≠2→i∉c.es:=fun q h0 hq hm=>by
   obtain⟨d,hd,h2⟩:=(hes i).1 hm
   rw[hc]at hd;injection hd with hd;subst hd;omega
  have hx':=hx
  simp only[exploreP,Bool.and_eq_true,List.all_eq_true]at hx
  obtain⟨⟨hx1,hx2⟩,hx3⟩:=hx
  rcases QcH cs[i].op with h0|h0|h0
  ·exact⟨h,QkB hr hct h0 h,k+1,S,hx',hS,same (notes 0 h0 (by simp))⟩
  ·have hm:=hx1 i ((hrs i).2 ⟨_,hc,h0⟩)
   have hst:mayStand c S i=true:=by
    unfold mayStand
    rw[List.all_eq_true]
    intro e he
    simp only[Bool.and_eq_true,Bool.or_eq_true,Bool.not_eq_true']
    constructor
    ·by_cases hb:c.anc.contains (i,e)=true
     ·exact .inr (by simpa using(hl e he).2 (hbef e (hanc e i (by simpa using hb))))
     ·exact .inl (by simpa using hb)
    ·by_cases hb:c.anc.contains (e,i)=true
     ·refine .inr ?_
      have:e∉S:=fun hm=>hno e ((hl e he).1 hm) (hanc i e (by simpa using hb))
      simpa using this
     ·exact .inl (by simpa using hb)
   rw[hst]at hm
   simp only[Bool.not_true,Bool.or_false,Bool.or_eq_true,decide_eq_true_eq]at hm
   obtain⟨h',hra⟩:=Option.isSome_iff_exists.1 (hm.resolve_left (by omega))
   have hs:=Qep htr hic hra
   have e:h'=h:=by
    obtain⟨q1,q2⟩:=hs _ hct
    cases hv:QbE E lim (cs.take p) st i with
    |none=>exact q1 hv
    |some v=>exact QcM h0 (q2 v hv)
   subst e
   exact⟨h',hs,k+1,S,hx',hS,same (notes 1 h0 (by simp))⟩
  ·have him:i∈c.es:=(hes i).2 ⟨_,hc,h0⟩
   have hiS:i∉S:=fun hm=>hil ((hl i him).1 hm)
   have h1:=hx3 i him
   have e1:S.contains i=false:=by simpa using hiS
   have e2:(c.es.all fun e'=>S.contains e'|| !c.anc.contains (i,e'))=true:=by
    rw[List.all_eq_true]
    intro e he
    simp only[Bool.or_eq_true,Bool.not_eq_true']
    by_cases hb:c.anc.contains (i,e)=true
    ·exact .inl (by simpa using(hl e he).2 (hbef e (hanc e i (by simpa using hb))))
    ·exact .inr (by simpa using hb)
   have e3:decide (p≤i)=false:=decide_eq_false (by omega)
   rw[e1,e2,e3]at h1
   simp only[Bool.not_true,Bool.false_or]at h1
   split at h1
   ·rename_i h' hra
    refine⟨h',Qep htr hic hra,k,i::S,h1, ?_,fun e he=> ?_⟩
    ·intro e he
     rw[List.mem_cons]at he
     rcases he with rfl|he
     ·exact him
     ·exact hS e he
    ·rw[List.mem_cons,List.mem_append,List.mem_singleton,hl e he]
     exact⟨fun h=>h.symm,fun h=>h.symm⟩
   ·simp at h1
end
theorem drew_inv{g:Gh}{st:St}{a:Act}{w:World}(hinv:Inv g st a w):WF g w g { w with drawn:=w.drawn+1 }∧Inv g st a { w with drawn:=w.drawn+1 }:=by
 have hwd:WF g w g { w with drawn:=w.drawn+1 }:=⟨rfl,rfl,rfl,Nat.le_refl _,fun _ _ _=>⟨rfl,rfl,rfl⟩,fun _ _ h=>⟨h,rfl⟩,Nat.le_refl _,fun _ _=>rfl,fun _ h=>h,fun _ h=>h,fun _ _=>rfl⟩
 have fk:∀ {loc:Own} {x:AV} {v:Value},FOK g w loc x v→FOK g { w with drawn:=w.drawn+1 } loc x v:=fun h=>h.keep fun b hb=>⟨hb,rfl,fun cs e fr hh hz=>⟨cs,fr,hh,rfl,hz⟩⟩
 exact⟨hwd,{
  heap:=⟨hinv.heap.n,hinv.heap.own,fun r o ho=>(hinv.heap.obj r o ho).keep hwd (by rw[hinv.heap.n];exact(List.getElem?_eq_some_iff.1 ho).1) (fun _=>rfl) (fun j x v h=>fk h),hinv.heap.new,fun n cs hn=>hwd.vr (hinv.heap.glob n cs hn)⟩
  size:=hinv.size
  tok:=fun i x v hx hv=>⟨hwd.vr (hinv.tok i x v hx hv).1,fk (hinv.tok i x v hx hv).2⟩
  nores:=hinv.nores
  defers:=hinv.defers }⟩
theorem Qii{P:Program}{tk:FuncId→Nat→Bool}{E:Qa0}{EP:QeP}{pf:FuncId→Bool}(hmx:P.follows .mixedOrders=true)(hE:Qcn P E)(hP:∀f,PSound P f (EP f))
  (hpf:∀f lim a H v,EP f lim a H=some v→pf f=true):Qgu P tk E EP pf:=by
 intro kp id ops cs chk fg lim g w st a pv Q hc hck hinv hlim he hQ
 simp only[QaI,Option.bind_eq_bind,Option.pure_def,Option.bind_eq_some_iff]at hc
 obtain⟨cs',hcs,hc⟩:=hc
 simp only[if_true]at hc
 split at hc
 ·rename_i hst
  simp only[Option.some.injEq,CCode.region.injEq]at hc
  obtain⟨rfl,rfl,rfl⟩:=hc
  rw[Bool.and_eq_true]at hst
  have hS:=Qh1 hcs hst.1 hst.2
  have may:∀ {o:COper} {s:St},panO EP lim o s=some pv→o.may pf=true:=fun{o s} h=>by
   unfold panO at h
   unfold COper.may
   split at h
   ·split at h
    ·rename_i ho;rw[ho]
    ·rename_i ho;rw[ho]
     split at h
     ·cases h
     ·exact hpf _ _ _ _ _ h
    ·cases h
   ·cases h
  refine wp_region_any hmx ?_
  obtain⟨hwd,hid⟩:=drew_inv hinv
  have fin:∀ {p:Nat} {cp:COper} {sp:St},cs'[p]? =some cp→panO EP lim cp sp=some pv→runOps E lim (cs'.take p) st=some sp→∀ {HG:List Nat→Qab→Prop},HG [] st.H→
    (∀l h i,HG l h→i<p→i∉l→(∀j,Anc ops j i→j∈l)→(∀k∈l,¬Anc ops i k)→∃h',Qi4 E lim (cs'.take p) st i h h'∧HG (l++ [i]) h')→
    (∀l h i,HG l h→p<i→¬Qaq cs' 2 i→HG (l++ [i]) h)→
    (∀l h,HG l h→(∀j,Anc ops j p→j∈l)→(∀k∈l,¬Anc ops p k)→panO EP lim cp ⟨sp.T,h⟩=some pv)→wpAny P .any ops Q ops.size (Array.replicate ops.size false) a { w with drawn:=w.drawn+1 }:=by
   intro p cp sp hcp hpo hr HG hg0 hgs hgf hgp
   have hpl:p<cs'.length:=(List.getElem?_eq_some_iff.1 hcp).1
   obtain⟨⟨F,htail,hclr⟩,_⟩:=Qhu hck hcp (may hpo)
   simp only[List.nil_append]at htail hclr
   have htl:∀i,p<i→i<cs'.length→Anc ops p i∨Free cs' p F i:=fun i h1 h2=>by
    rcases Qhm hS (cs'.drop (p+1)) [cp] (p+1) F rfl (fun d hd=>by rw[List.mem_singleton]at hd;subst hd;exact⟨p,hcp,by omega,.inl rfl⟩) htail i (by omega) h2 with h|⟨c,d,q1,q2,q3⟩
    ·exact .inl h
    ·obtain⟨off,n,b,rfl,hb,r1,r2,r3,r4⟩:=free_of q2
     obtain⟨j,hj⟩:=List.mem_iff_getElem?.1 hb
     have hjp:j<p:=by have:=(List.getElem?_eq_some_iff.1 hj).1;rw[List.length_take]at this;omega
     rw[QdS hjp]at hj
     refine .inr ⟨d,off,n,j,b,q1,q3,h1,hjp,hj,r1,r2,r3, ?_,fun k c hk hd=>r4 (List.mem_filterMap.2 ⟨c,List.mem_of_getElem? hk,hd⟩)⟩
     obtain⟨c1,_,_⟩:=QhN (hclr b (List.mem_of_getElem? (i:=j) (by rw[List.getElem?_take_of_lt (by omega)];exact hj)))
     exact c1 n (by simp[COper.reads,r1,COp.opds,Opd.slots])
   have hff:∀l h i,HG l h→Free cs' p F i→HG (l++ [i]) h:=fun l h i hg hfr=>by
    obtain⟨d,off,n,j,cj,hc,_,hpi,_⟩:=hfr
    exact hgf l h i hg hpi (by rintro⟨c,hc',h2⟩;rw[hc]at hc';injection hc' with hc';subst hc';cases h2)
   refine Qlv hE hP hS hcp hr hclr htl hg0 hgs hff (fun l h T h1 h2 h3 h4 h5 hrd hcn=> ?_) (g0:=g) (w0:=w) hQ ops.size _ [] st.H g a _ ?_ ?_ (by simp) hg0 hwd (Ext.refl _ _) (QeB hid F) hlim
   ·rw[QgT hcn hrd]
    exact hgp l h h1 h2 h3
   ·exact Nat.le_trans (List.length_filter_le _ _) (by simp)
   ·refine⟨by simp,fun i hi=> ?_,fun k o hk=>by simp at hk,fun t=>by simp⟩
    simp[hi]
  cases hk:QjR (Region.before ops) cs' with
  |some c=>
   rw[hk]at he
   simp only[panR]at he
   split at he
   ·cases he
   ·rename_i hplan
    split at he
    ·rename_i recs cp sp htp
     obtain⟨hcp,htr⟩:=Qfw htp
     have hpl:recs.length<cs'.length:=(List.getElem?_eq_some_iff.1 hcp).1
     split at he
     ·rename_i v hpo
      split at he
      ·rename_i hx
       simp only[Option.some.injEq]at he;subst he
       have hch:(∀i,i∈c.es↔Qaq cs' 2 i)∧(∀i,i∈c.rs↔Qaq cs' 1 i)∧∀i j,(j,i)∈c.anc→Anc ops i j:=by
        unfold QjR at hk
        simp only at hk
        split at hk
        ·split at hk
         ·cases hk
         ·simp only[Option.some.injEq]at hk;subst hk;cases hplan
        ·simp only[Option.some.injEq]at hk
         subst hk
         refine⟨fun i=>Qak,fun i=>Qak,fun i j hm=> ?_⟩
         simp only[List.mem_flatMap,List.mem_map,List.mem_filter,Prod.mk.injEq]at hm
         obtain⟨x,_,y,⟨_,hy⟩,rfl,rfl⟩:=hm
         exact QaR ops hy
       obtain⟨c1,c2,c3⟩:=hch
       refine fin hcp hpo (Qa2 _ htr) (HG:=fun l h=>∃k S,exploreP E lim recs c recs.length (panAt EP lim cp sp.T v) k S h=true∧(∀e∈S,e∈c.es)∧∀e∈c.es,e∈S↔e∈l) ⟨_,[],hx,by simp,by simp⟩
        (fun l h i h1 h2 h3 h4 h5=>QhI (Nat.le_of_lt hpl) htr c1 c2 c3 h1 h2 h3 h4 h5)
        (fun l h i ⟨k,S,q1,q2,q3⟩ hpi hn=>⟨k,S,q1,q2,fun e he=>by
          rw[q3 e he,List.mem_append,List.mem_singleton]
          exact⟨.inl,fun h=>h.resolve_right fun h=>hn (h▸(c1 e).1 he)⟩⟩) ?_
       rintro l h ⟨k,S,hx,hS1,hl⟩ hb hno
       cases k with
       |zero=>simp[exploreP]at hx
       |succ k=>
        simp only[exploreP,Bool.and_eq_true]at hx
        have hx2:=hx.1.2
        rw[Bool.or_eq_true]at hx2
        rcases hx2 with h1|h1
        ·exfalso
         rw[List.any_eq_true]at h1
         obtain⟨e,he,h2⟩:=h1
         simp only[Bool.and_eq_true,Bool.not_eq_true']at h2
         have:e∈S:=(hl e he).2 (hb e (c3 e _ (by simpa using h2.1)))
         have h3:S.contains e=true:=by simpa using this
         rw[h3]at h2;cases h2.2
        ·unfold panAt at h1
         split at h1
         ·rename_i w' hw'
          rw[hw',pvBeq_eq h1]
         ·cases h1
      ·cases he
     ·cases he
    ·cases he
  |none=>
   rw[hk]at he
   have hcond:(∀x∈QaH cs' 2,∀y∈QaH cs' 2,x≤y∨ancB (Region.before ops) x y=true)∧∀x∈QaH cs' 1,∀y∈QaH cs' 2,(if y<x then ancB (Region.before ops) x y else ancB (Region.before ops) y x)=true:=by
    unfold QjR at hk
    simp only at hk
    split at hk
    ·rename_i hch
     split at hk
     ·rename_i hrd
      simp only[List.all_eq_true,Bool.or_eq_true,decide_eq_true_eq]at hch hrd
      exact⟨hch,hrd⟩
     ·simp at hk
    ·simp at hk
   have ht:∀i j,Qaq cs' 2 i→Qaq cs' 2 j→i<j→Anc ops i j:=fun i j hi hj hij=>by
    rcases hcond.1 j (Qak.2 hj) i (Qak.2 hi)with h|h
    ·omega
    ·exact QaR ops h
   have hrd:∀r e,Qaq cs' 1 r→Qaq cs' 2 e→(e<r→Anc ops e r)∧(¬e<r→Anc ops r e):=fun r e hr he'=>by
    have:=hcond.2 r (Qak.2 hr) e (Qak.2 he')
    exact⟨fun h=>by rw[if_pos h]at this;exact QaR ops this,fun h=>by rw[if_neg h]at this;exact QaR ops this⟩
   simp only[panR]at he
   have key:∀(l:List COper) (s:St),panOps E EP lim l s=some pv→∃p cp sp,l[p]? =some cp∧runOps E lim (l.take p) s=some sp∧panO EP lim cp sp=some pv:=by
    intro l
    induction l with
    |nil=>intro s h;cases h
    |cons o os ih=>
     intro s h
     simp only[panOps]at h
     split at h
     ·rename_i s1 h1
      obtain⟨p,cp,sp,q1,q2,q3⟩:=ih s1 h
      exact⟨p+1,cp,sp,by simpa using q1,by simp only[List.take_succ_cons,runOps,h1];exact q2,q3⟩
     ·exact⟨0,o,s,rfl,rfl,h⟩
   obtain⟨p,cp,sp,hcp,hr,hpo⟩:=key cs' st he
   have hpl:p<cs'.length:=(List.getElem?_eq_some_iff.1 hcp).1
   have hlen:(cs'.take p).length=p:=by rw[List.length_take];omega
   have hG:=Qg3 (ops:=ops) hr (fun i j hi hj hij=>ht i j (Qb5 hi).1 (Qb5 hj).1 hij) fun r e h1 h2=>hrd r e (Qb5 h1).1 (Qb5 h2).1
   obtain⟨_,hq⟩:=Qhu hck hcp (may hpo)
   refine fin hcp hpo hr hG.start (fun l h i h1 h2 h3 h4 h5=>hG.step l h i h1 (by rw[hlen];exact h2) h3 h4 h5)
    (fun l h i ⟨m,q1,q2,q3⟩ hpi hn=>⟨m,q1,q2,fun e he=>by
      rw[←q3 e he,List.mem_append,List.mem_singleton]
      exact⟨fun h=>h.resolve_right fun h=>hn (h▸(Qb5 he).1),.inl⟩⟩) ?_
   rintro l h ⟨m,hm,rfl,hl⟩ hanc hno
   have hh:(Qbx E lim (cs'.take p) st m).H=sp.H:=by
    rw[←QdU hr (Nat.le_refl _)]
    refine QbN hr hm (Nat.le_refl _) fun e he'=> ?_
    obtain⟨hc2,hep⟩:=Qb5 he'
    refine⟨fun _=>by rw[hlen];exact hep,fun _=>(hl e he').1 (hanc e ?_)⟩
    rcases hq with hq|hq|hq
    ·rw[hk]at hq;cases hq
    ·refine ht e p hc2 ⟨cp,hcp, ?_⟩ hep
     cases ho:cp.op<;>rw[ho]at hq<;>first|rfl|cases hq
    ·obtain⟨c,hc',h2'⟩:=he'
     exact absurd h2' (hq c (by simpa using List.mem_of_getElem? hc'))
   rw[hh]
   exact hpo
 ·simp at hc
end Go.Abs
namespace Go.Abs
open Go.RowKit
variable [Tab]
def Qag:FuncId→Nat→Bool:=fun _ _=>false
def mutTk:FuncId→Nat→Bool:=fun _ _=>true
def Qhh(P:Program)(code:FuncId→Option CFn):Prop:=∀f c,code f=some c→∃tk keep kp,Qaa P tk keep kp f=some c
theorem Qgf{P:Program}{code:FuncId→Option CFn}{prim:FuncId→Option Qba}(hmx:P.follows .mixedOrders=true)(hc:Qhh P code)(hp:∀f F,prim f=some F→FSound P f F):∀k,Qcn P (QaE code prim k):=by
 intro k
 induction k with
 |zero=>intro f lim args H a H' h;simp[QaE]at h
 |succ k ih=>
  intro f
  simp only[QaE]
  split
  ·rename_i F hF;exact hp f F hF
  ·split
   ·rename_i c hcc
    obtain⟨tk,keep,kp,h⟩:=hc f c hcc
    exact(Qgj (QkG ih (QeI hmx ih) (fun body s r h=>⟨k,h⟩) h)).plain
   ·intro lim args H a H' h;cases h
theorem Qg7{P:Program}{code:FuncId→Option CFn}{prim:FuncId→Option Qba}(hmx:P.follows .mixedOrders=true)(hc:Qhh P code)(hp:∀f F,prim f=some F→FSound P f F)(k:Nat){f:FuncId}(hpf:prim f=none):FSoundC P f (QaE code prim k f):=by
 cases k with
 |zero=>intro lim args H a H' h;simp[QaE]at h
 |succ k=>
  simp only[QaE,hpf]
  split
  ·rename_i c hcc
   obtain⟨tk,keep,kp,h⟩:=hc f c hcc
   have ih:=Qgf hmx hc hp k
   exact Qgj (QkG ih (QeI hmx ih) (fun body s r h=>⟨k,h⟩) h)
  ·intro lim args H a H' h;cases h
theorem Ql5{P:Program}{code:FuncId→Option CFn}{prim:FuncId→Option Qba}(hmx:P.follows .mixedOrders=true)(hc:Qhh P code)(hp:∀f F,prim f=some F→FSound P f F){k:Nat}{f:FuncId}{args:List AV}{a:AV}
  (hpf:prim f=none)(h:QaE code prim k f 0 args []=some (a,[])){vals:Array Value}{w:World}{g:Gh}(hg:HeapOK g [] w)(hn:∀b,g.own b≠ .res)(hl:args.length=vals.size)
  (hv:∀(i:Nat) x v,args[i]? =some x→vals[i]? =some v→VR g w x v∧Triv x v):Calls P f vals w fun e w'=>∃v g',e= .returned v∧WF g w g' w'∧VR g' w' a v:=by
 obtain⟨_,_,h1⟩:=Qg7 hmx hc hp k hpf 0 args [] a [] h (Nat.zero_le _)
 refine Calls.mono (h1 vals g w hg hn hl fun i x v hx hv'=>⟨(hv i x v hx hv').1,FOK.triv (hv i x v hx hv').2⟩) ?_
 rintro e w' ⟨v,g',he,q1,q2,q3,q4⟩
 exact⟨v,g',he,q1,q3⟩
def Gh.still(w:World):Gh:= { bd:=fun b=>Qcj w b,own:=fun _=> .free,rho:=fun _=>0,rm:=fun _=>0,n:=0 }
theorem QkZ(w:World)(hG:∀n cs,Tab.tab n=some cs→VR (Gh.still w) w (.pref cs) (.pointer (some ⟨n,0,none⟩))):HeapOK (Gh.still w) [] w where
 n:=rfl
 own r hr:=by simp[Gh.still]at hr
 obj r o ho:=by simp at ho
 new b hb:=by
  refine⟨rfl, ?_⟩
  simp only[Gh.still,Qcj]
  rw[Array.getElem?_eq_none hb]
 glob:=hG
end Go.Abs
namespace Go.Abs
open Go.RowKit
variable [Tab]
def Qea(E:Qa0)(EP:QeP)(L:(St→Option (St ⊕(AExit×St)))→St→Option (AExit×St))(LP:(St→Option (St ⊕PV))→St→Option PV)(fn:CFn):Qeh:=fun lim args H=>
 if args.length=fn.nargs then QbQ E EP (if fn.keep then lim else H.length) L LP fn.body ⟨args++List.replicate (fn.ntmps-args.length) (.tuple []),H⟩else none
theorem Ext.less{lim lim':Nat}{H H':Qab}(h:Ext lim' H H')(hl:lim≤lim'):Ext lim H H':=by
 refine⟨h.1, ?_⟩
 have:=congrArg (List.take lim) h.2
 rwa [List.take_take,List.take_take,Nat.min_eq_left hl]at this
def QbZ(code:FuncId→Option CFn)(pf:FuncId→Bool)(prim:FuncId→Option Qba)(primP:FuncId→Option Qeh):Nat→QeP
 |0=>fun _ _ _ _=>none
 |k+1=>fun f=>if pf f then match primP f with
   |some F=>F
   |none=>match prim f with
    |some _=>fun _ _ _=>none
    |none=>match code f with
     |some fn=>Qea (QaE code prim k) (QbZ code pf prim primP k) (Qas · k) (Qas · k) fn
     |none=>fun _ _ _=>none
  else fun _ _ _=>none
theorem Qng{code:FuncId→Option CFn}{pf:FuncId→Bool}{prim:FuncId→Option Qba}{primP:FuncId→Option Qeh}:∀k f lim a H v,QbZ code pf prim primP k f lim a H=some v→pf f=true
 |0,f,lim,a,H,v,h=>by simp[QbZ]at h
 |k+1,f,lim,a,H,v,h=>by
  simp only[QbZ]at h
  split at h
  ·assumption
  ·cases h
section
variable {P:Program} {E:Qa0} {EP:QeP} {tk:FuncId→Nat→Bool}
theorem Qna{pf:FuncId→Bool}(hE:Qcn P E)(hD:Qgw P tk E)(hP:∀f,PSound P f (EP f))(hDP:Qgu P tk E EP pf)
  {L:(St→Option (St ⊕(AExit×St)))→St→Option (AExit×St)}(hL:∀body s r,L body s=some r→∃n,Qas body n s=some r)
  {LP:(St→Option (St ⊕PV))→St→Option PV}(hLP:∀body s r,LP body s=some r→∃n,Qas body n s=some r)
  {keep:Bool}{kp:List Nat}{f:FuncId}{c:CFn}(hc:Qaa P tk keep kp f=some c)(hck:panCk pf c.body=true):PSound P f (Qea E EP L LP c):=by
 intro lim args H t x h hlim
 obtain⟨fn,body,hcc⟩:=Qct hc
 refine⟨⟨fn,hcc.func,by rw[hcc.hbody];rfl,hcc.name⟩,fun vals g w hH hn hl hv=> ?_⟩
 unfold Qea at h
 split at h
 ·refine calls_of_wp hcc.func hcc.hbody ?_
  rw[←hcc.nt]
  have hl':(if c.keep=true then lim else H.length)≤H.length:=by split<;>omega
  refine QaN hE hD hP hDP hL hLP body c.body hcc.code hck (QcC hH hn hl (fun i x v hx hv'=>⟨(hv i x v hx hv').1,FOK.triv (hv i x v hx hv').2⟩) c.ntmps) hl' h fun g' H' v a' w' k0 k1 kx k2 k3=> ?_
  exact⟨k0,v,g',H',rfl,k1,kx.less (by split<;>omega),k2,k3⟩
 ·cases h
end
def QnF(code:FuncId→Option CFn)(pf:FuncId→Bool):Prop:=∀f c,pf f=true→code f=some c→panCk pf c.body=true
theorem QlA{P:Program}{code:FuncId→Option CFn}{pf:FuncId→Bool}{prim:FuncId→Option Qba}{primP:FuncId→Option Qeh}(hmx:P.follows .mixedOrders=true)(hc:Qhh P code)(hpc:QnF code pf)(hp:∀f F,prim f=some F→FSound P f F)(hpp:∀f F,primP f=some F→PSound P f F):∀k f,PSound P f (QbZ code pf prim primP k f):=by
 intro k
 induction k with
 |zero=>intro f lim args H t x h;simp[QbZ]at h
 |succ k ih=>
  intro f
  have hE:=Qgf (prim:=prim) hmx hc hp k
  simp only[QbZ]
  split
  ·rename_i hpf
   split
   ·rename_i F hF;exact hpp f F hF
   ·split
    ·intro lim args H t x h;cases h
    ·split
     ·rename_i c hcc
      obtain⟨tk,keep,kp,h⟩:=hc f c hcc
      exact Qna hE (QeI hmx hE) ih (Qii hmx hE ih (Qng k)) (fun body s r h=>⟨k,h⟩) (fun body s r h=>⟨k,h⟩) h (hpc f c hpf hcc)
     ·intro lim args H t x h;cases h
  ·intro lim args H t x h;cases h
theorem QbY{E:Qa0}{EP:QeP}{lim k:Nat}:∀(c:CCode) {st:St} {r:PV},QbQ E EP lim (Qas · k) (Qas · k) c st=some r→evalC E lim (Qas · k) c st=none
 |.region ops chk fg,st,r,h=>by
  simp only[QbQ]at h
  cases chk with
  |some c=>
   simp only[panR]at h
   split at h
   ·cases h
   ·split at h
    ·rename_i recs o s htp
     split at h
     ·rename_i v hpo
      have hno:stepRec E lim o s=none:=by
       have key:∀(cs:List COper) {st:St} {recs:List Rec} {o:COper} {s:St},traceP E lim cs st=some (recs,o,s)→stepRec E lim o s=none:=by
        intro cs
        induction cs with
        |nil=>intro st recs o s h;cases h
        |cons c cs ih=>
         intro st recs o s h
         simp only[traceP]at h
         split at h
         ·split at h
          ·rename_i h2
           simp only[Option.some.injEq,Prod.mk.injEq]at h
           obtain⟨_,rfl,rfl⟩:=h
           exact ih h2
          ·cases h
         ·rename_i h1
          simp only[Option.some.injEq,Prod.mk.injEq]at h
          obtain⟨_,rfl,rfl⟩:=h
          exact h1
       exact key ops htp
      have key:∀(cs:List COper) {st:St} {recs:List Rec} {o:COper} {s:St},traceP E lim cs st=some (recs,o,s)→traceOps E lim cs st=none:=by
       intro cs
       induction cs with
       |nil=>intro st recs o s h;cases h
       |cons c cs ih=>
        intro st recs o s h
        simp only[traceP]at h
        simp only[traceOps]
        split at h
        ·rename_i h1
         split at h
         ·rename_i h2
          rw[h1]
          simp only[ih h2]
         ·cases h
        ·rename_i h1
         rw[h1]
      simp only[evalC,evalR,key ops htp]
     ·cases h
    ·cases h
  |none=>
   have h1:=QfK ops h
   simp only[evalC,evalR,h1]
 |.seq a b,st,r,h=>by
  simp only[QbQ]at h
  simp only[evalC]
  split at h
  ·rename_i s1 h1
   rw[h1]
   exact QbY b h
  ·cases h
  ·rename_i h1
   rw[h1]
 |.cond o a b,st,r,h=>by
  simp only[QbQ]at h
  simp only[evalC]
  split at h
  ·rename_i t ht
   cases t with
   |true=>simpa[ht]using QbY a (by simpa using h)
   |false=>simpa[ht]using QbY b (by simpa using h)
  ·cases h
 |.block id a,st,r,h=>by
  simp only[QbQ]at h
  simp only[evalC]
  rw[QbY a h]
 |.loop a,st,r,h=>by
  simp only[QbQ]at h
  simp only[evalC]
  have key:∀(n:Nat) {st:St},Qas (fun s=>match evalC E lim (Qas · k) a s with
        |some (.normal,s')=>some (.inl s')
        |some _=>none
        |none=>match QbQ E EP lim (Qas · k) (Qas · k) a s with
         |some r=>some (.inr r)
         |none=>none) n st=some r→Qas (fun s=>match evalC E lim (Qas · k) a s with
        |some (.normal,s')=>some (.inl s')
        |some r=>some (.inr r)
        |none=>none) n st=none:=by
   intro n
   induction n with
   |zero=>intro st h;simp[Qas]at h
   |succ n ih=>
    intro st h
    simp only[Qas]at h⊢
    cases he:evalC E lim (Qas · k) a st with
    |none=>rfl
    |some q=>
     obtain⟨x,s1⟩:=q
     rw[he]at h
     cases x with
     |normal=>exact ih h
     |exit _=>simp at h
     |ret=>simp at h
  exact key k h
 |.skip,_,_,h=>by simp[QbQ]at h
 |.exit _,_,_,h=>by simp[QbQ]at h
 |.ret,_,_,h=>by simp[QbQ]at h
end Go.Abs
namespace Go.Abs
open Go.RowKit Go.Deep
variable [Tab]
structure DL (w:World) (ds:List D) (cs:List Value):Prop where
 len:ds.length=cs.length
 cell:∀d∈ds,d.isCell=true
 dr:∀(i:Nat) d v,ds[i]? =some d→cs[i]? =some v→DR (Gh.still w).bd w d v
def QnG{H:Type}(P:Program)(t:TypeId)(d:DataW H):Prop:=∀n∈d.weights P t,n≤reachBytes
def Qgv(P:Program)(w:World)(t:TypeId)(A:List D→Prop)(fuel:Nat):Prop:=
 ∀(H:Type) (enc:TypeId×Value→H) (base:Nat) (sp:Nat→Bool) (hd:Bool) (cs:List Value) (x:DataW H×List MemPlace),DataW.trod enc P w base sp hd fuel t cs=some x→QnG P t x.1→∃ds,A ds∧DL w ds cs
def Opens(P:Program)(w:World)(t:TypeId)(A:List D→Prop):Prop:=∀fuel,Qgv P w t A fuel
theorem DL.one{w:World}{d:D}{v:Value}(hc:d.isCell=true)(h:DR (Gh.still w).bd w d v):DL w [d] [v] where
 len:=rfl
 cell x hx:=by rw[List.mem_singleton]at hx;subst hx;exact hc
 dr i x u hx hu:=by
  cases i with
  |zero=>simp at hx hu;subst hx hu;exact h
  |succ i=>simp at hx
section
variable {P:Program} {w:World} {t:TypeId}
theorem Qil{k:IntKind}(ht:P.underlying t=some (.int k)):Opens P w t fun ds=>∃n,ds= [.int k n]∧(Lit.int k n).wf=true:=by
 intro fuel H enc base sp hd cs x h _
 obtain⟨n,rfl,_,hw⟩:=DataW.trod_int ht h
 exact⟨_,⟨n,rfl,hw⟩,DL.one rfl (.int _ _)⟩
theorem Qlc(ht:P.underlying t=some .bool):Opens P w t fun ds=>∃b,ds= [.bool b]:=by
 intro fuel H enc base sp hd cs x h _
 obtain⟨b,rfl,_⟩:=DataW.trod_bool ht h
 exact⟨_,⟨b,rfl⟩,DL.one rfl (.bool _)⟩
def pack(sz:Nat)(es:List D):D:=if sz=1 then es.headD .nilptr else .agg es
theorem Qlb{sz:Nat}{es:List D}(hl:es.length=sz)(hc:∀d∈es,d.isCell=true):(pack sz es).cells=es:=by
 unfold pack
 split
 ·rename_i h
  match es,hl with
  | [e],_=>
    have:=hc e (by simp)
    cases e<;>first|rfl|simp[D.isCell]at this
  | [],hl=>simp at hl;omega
  |_::_::_,hl=>simp at hl;omega
 ·rfl
theorem Qch{b i:Nat}{v:Value}(h:QaL w b i=some v):i<(Gh.still w).bd b:=by
 unfold QaL World.cell? at h
 simp only[Gh.still,Qcj]
 split at h
 ·rename_i c e f hb
  simp only at hb
  rw[hb]
  simp at h
  exact(Array.getElem?_eq_some_iff.1 h).1
 ·cases h
theorem Qiz{H:Type}{e:TypeId}:∀ {l:List (DataW H)} {d:DataW H},d∈l→∀n∈d.weights P e,n∈DataW.weightsAll P e l
 | [],d,h,_,_=>by cases h
 |a::l,d,h,n,hn=>by
  simp only[DataW.weightsAll,List.mem_append]
  rcases List.mem_cons.1 h with rfl|h
  ·exact .inl hn
  ·exact .inr (Qiz h n hn)
theorem Qgz{e:TypeId}{sz:Nat}{A:List D→Prop}{fuel:Nat}(ht:P.underlying t=some (.slice e))(hs:P.cellsOf e=sz)(hs0:0<sz)(he:∀n,n<fuel→Qgv P w e A n):
  Qgv P w t (fun ds=>∃xs,ds= [.slice xs]∧xs.length≤maxLen∧∀x∈xs,∃es,A es∧es.length=sz∧x=pack sz es) fuel:=by
 intro H enc base sp hd cs x h hw
 rcases DataW.trod_slice ht h with⟨rfl,_⟩|⟨a,len,cap,elems,rest,n,hfu,rfl,rfl,hb,hl,hm,hlen,hel,_,_⟩
 ·exact⟨_,⟨[],rfl,Nat.zero_le _,by simp⟩,DL.one rfl .slnil⟩
 ·rw[hs]at hel
  by_cases h0:len=0
  ·subst h0
   exact⟨_,⟨[],rfl,Nat.zero_le _,by simp⟩,DL.one rfl (.sle _ _)⟩
  ·have key:∀i,i<len→∃es cs',A es∧DL w es cs'∧es.length=sz∧w.cells? base (a.add (i*sz)) sz=some cs':=fun i hi=>by
    have h1:=hel i hi
    rw[List.getElem?_eq_getElem (by omega)]at h1
    obtain⟨cs',h1,h2⟩:=Option.bind_eq_some_iff.1 h1
    have hmem:elems[i].1∈elems.map (·.1):=List.mem_map.2 ⟨_,List.getElem_mem _,rfl⟩
    obtain⟨es,h3,h4⟩:=he n (by omega) H enc base sp hd cs' _ h2 fun k hk=>hw k (by
     simp only[DataW.weights,ht,List.mem_cons,List.mem_append]
     exact .inr (.inl (Qiz hmem k hk)))
    have hlen:=(World.cells?_some h1).2.1
    exact⟨es,cs',h3,h4,by rw[h4.len,hlen],h1⟩
   have hsp:a.spot=none:=by
    obtain⟨es,cs',_,_,_,h1⟩:=key 0 (by omega)
    obtain⟨_,hlen,hc⟩:=World.cells?_some h1
    have hc0:=hc 0 hs0
    simp only[Nat.zero_mul,Addr.add,if_true]at hc0
    unfold World.cell? at hc0
    cases hspot:a.spot with
    |none=>rfl
    |some q=>
     rw[hspot]at hc0
     simp at hc0
     split at hc0
     ·have:cs'[0]? =none:=hc0.symm
      rw[List.getElem?_eq_none_iff]at this;omega
     ·have:cs'[0]? =none:=hc0.symm
      rw[List.getElem?_eq_none_iff]at this;omega
   obtain⟨b,off,sp'⟩:=a
   simp only at hsp;subst hsp
   have hadd:∀i,(⟨b,off,none⟩:Addr).add i=⟨b,off+i,none⟩:=fun i=>by
    unfold Addr.add;split
    ·rename_i h;subst h;rfl
    ·rfl
   have key:∀i,i<len→∃es cs',A es∧DL w es cs'∧es.length=sz∧w.cells? base (⟨b,off+i*sz,none⟩:Addr) sz=some cs':=fun i hi=>by
    have:=key i hi
    rw[hadd]at this
    exact this
   let f:Nat→List D:=fun i=>if hi:i<len then Classical.choose (key i hi)else []
   have hf:∀i,i<len→∃cs',A (f i)∧DL w (f i) cs'∧(f i).length=sz∧w.cells? base (⟨b,off+i*sz,none⟩:Addr) sz=some cs':=fun i hi=>by
    have:=Classical.choose_spec (key i hi)
    simpa only[f,dif_pos hi]using this
   have hcell:∀i j,i<len→j<sz→∃v,QaL w b (off+(i*sz+j))=some v∧∀d,(f i)[j]? =some d→DR (Gh.still w).bd w d v:=fun i j hi hj=>by
    obtain⟨cs',h1,h2,h3,h4⟩:=hf i hi
    obtain⟨_,h5,h6⟩:=World.cells?_some h4
    have h7:=h6 j hj
    rw[List.getElem?_eq_getElem (by omega)]at h7
    have h8:QaL w b (off+(i*sz+j))=some (cs'[j]'(by omega)):=by
     rw[←h7]
     unfold QaL
     have:((⟨b,off+i*sz,none⟩:Addr).add j)=⟨b,off+(i*sz+j),none⟩:=by
      unfold Addr.add;split
      ·rename_i h;subst h;rfl
      ·simp[Nat.add_assoc]
     rw[this]
    exact⟨_,h8,fun d hd=>h2.dr j d _ hd (List.getElem?_eq_getElem (by omega))⟩
   have hget:∀(i:Nat) x,((List.range len).map fun i=>pack sz (f i))[i]? =some x→i<len∧x=pack sz (f i):=fun i x hx=>by
    simp only[List.getElem?_map,Option.map_eq_some_iff]at hx
    obtain⟨k,hk,rfl⟩:=hx
    have hk':=List.getElem?_eq_some_iff.1 hk
    obtain⟨q1,q2⟩:=hk'
    simp at q1 q2
    subst q2
    exact⟨q1,rfl⟩
   have hpc:∀i,i<len→(pack sz (f i)).cells=f i:=fun i hi=>by
    obtain⟨cs',h1,h2,h3,h4⟩:=hf i hi
    exact Qlb h3 h2.cell
   refine⟨[.slice ((List.range len).map fun i=>pack sz (f i))],⟨_,rfl,by simp;omega,fun x hx=> ?_⟩,DL.one rfl ?_⟩
   ·obtain⟨i,hi,rfl⟩:=List.mem_map.1 hx
    have hi':i<len:=by simpa using hi
    obtain⟨cs',h1,h2,h3,h4⟩:=hf i hi'
    exact⟨f i,h1,h3,rfl⟩
   ·refine .slice _ b off len cap sz (fun k=>(QaL w b (off+k)).getD undef) (by simp) hl (fun x hx=> ?_) (fun x hx c hc=> ?_) (fun k hk=> ?_) (fun i j x c hx hc=> ?_)
    ·obtain⟨i,hi,rfl⟩:=List.mem_map.1 hx
     have hi':i<len:=by simpa using hi
     rw[hpc i hi']
     exact(hf i hi').choose_spec.2.2.1
    ·obtain⟨i,hi,rfl⟩:=List.mem_map.1 hx
     have hi':i<len:=by simpa using hi
     rw[hpc i hi']at hc
     exact(hf i hi').choose_spec.2.1.cell c hc
    ·simp only[List.length_map,List.length_range]at hk
     have e:k=k/sz*sz+k % sz:=by rw[Nat.mul_comm];exact(Nat.div_add_mod k sz).symm
     have hi:k/sz<len:=Nat.div_lt_of_lt_mul (by rw[Nat.mul_comm];exact hk)
     obtain⟨v,h1,_⟩:=hcell (k/sz) (k % sz) hi (Nat.mod_lt _ hs0)
     rw[←e]at h1
     exact⟨Qch h1,by rw[h1];rfl⟩
    ·obtain⟨hi,rfl⟩:=hget i x hx
     rw[hpc i hi]at hc
     have hj:j<sz:=by rw[←(hf i hi).choose_spec.2.2.1];exact(List.getElem?_eq_some_iff.1 hc).1
     obtain⟨v,h1,h2⟩:=hcell i j hi hj
     simp only[h1,Option.getD_some]
     exact h2 c hc
theorem Qjs{e:TypeId}{sz:Nat}{A:List D→Prop}(ht:P.underlying t=some (.slice e))(hs:P.cellsOf e=sz)(hs0:0<sz)(he:Opens P w e A):
 Opens P w t fun ds=>∃xs,ds= [.slice xs]∧xs.length≤maxLen∧∀x∈xs,∃es,A es∧es.length=sz∧x=pack sz es:=fun fuel=>Qgz ht hs hs0 fun n _=>he n
def Qfr(P:Program)(w:World)(fuel:Nat):Nat→List Field→List (List D→Prop)→Prop
 |_,[],[]=>True
 |o,f::fs,A::As=>f.offset=o∧(∀n,n<fuel→Qgv P w f.type A n)∧Qfr P w fuel (o+P.cellsOf f.type) fs As
 |_,_,_=>False
def FOpens(P:Program)(w:World):Nat→List Field→List (List D→Prop)→Prop
 |_,[],[]=>True
 |o,f::fs,A::As=>f.offset=o∧Opens P w f.type A∧FOpens P w (o+P.cellsOf f.type) fs As
 |_,_,_=>False
theorem FOpens.at{fuel:Nat}:∀ {fs:List Field} {As:List (List D→Prop)} {o:Nat},FOpens P w o fs As→Qfr P w fuel o fs As
 | [],[],_,_=>trivial
 |_::_,_::_,_,h=>⟨h.1,fun n _=>h.2.1 n,FOpens.at h.2.2⟩
 | [],_::_,_,h=>h.elim
 |_::_,[],_,h=>h.elim
def cat:List (List D→Prop)→List D→Prop
 | [],ds=>ds= []
 |A::As,ds=>∃d1 d2,ds=d1++d2∧A d1∧cat As d2
def QkV(P:Program):List Field→Nat
 | []=>0
 |f::fs=>P.cellsOf f.type+QkV P fs
theorem DL.append{ds es:List D}{cs us:List Value}(h:DL w ds cs)(k:DL w es us):DL w (ds++es) (cs++us) where
 len:=by simp[h.len,k.len]
 cell d hd:=by rw[List.mem_append]at hd;exact hd.elim (h.cell d) (k.cell d)
 dr i d v hd hv:=by
  rcases Nat.lt_or_ge i ds.length with hi|hi
  ·rw[List.getElem?_append_left hi]at hd
   rw[List.getElem?_append_left (by rw[←h.len];exact hi)]at hv
   exact h.dr i d v hd hv
  ·rw[List.getElem?_append_right hi]at hd
   rw[List.getElem?_append_right (by rw[←h.len];exact hi),←h.len]at hv
   exact k.dr _ d v hd hv
theorem Qe0{H:Type}{enc:TypeId×Value→H}{base:Nat}{sp:Nat→Bool}{hd:Bool}{n N:Nat}(hn:n<N){cs:List Value}:∀(fs:List Field) (As:List (List D→Prop)) (o:Nat),Qfr P w N o fs As→o+QkV P fs=cs.length→
  (∀f∈fs,∃x,DataW.trod enc P w base sp hd n f.type ((cs.drop f.offset).take (P.cellsOf f.type))=some x∧QnG P f.type x.1)→∃ds,cat As ds∧DL w ds (cs.drop o)
 | [],[],o,_,hl,_=>⟨[],rfl,by
     have:cs.drop o= []:=List.drop_eq_nil_of_le (by simp[QkV]at hl;omega)
     rw[this]
     exact⟨rfl,by simp,fun i d v h=>by simp at h⟩⟩
 |f::fs,A::As,o,h,hl,hx=>by
  obtain⟨h1,h2,h3⟩:=h
  obtain⟨x,hx0,hx1⟩:=hx f (by simp)
  obtain⟨d1,q1,q2⟩:=h2 n hn H enc base sp hd _ _ hx0 hx1
  obtain⟨d2,q3,q4⟩:=Qe0 hn fs As _ h3 (by simp only[QkV]at hl;omega) fun f hf=>hx f (by simp[hf])
  refine⟨d1++d2,⟨d1,d2,rfl,q1,q3⟩, ?_⟩
  have e:cs.drop o=(cs.drop f.offset).take (P.cellsOf f.type)++cs.drop (o+P.cellsOf f.type):=by
   rw[h1,←List.drop_drop,List.take_append_drop]
  rw[e]
  exact q2.append q4
 | [],_::_,_,h,_,_=>h.elim
 |_::_,[],_,h,_,_=>h.elim
theorem QfQ{fs:Array Field}{As:List (List D→Prop)}{fuel:Nat}(ht:P.underlying t=some (.struct fs))(hf:Qfr P w fuel 0 fs.toList As)(hs:QkV P fs.toList=P.cellsOf t):Qgv P w t (cat As) fuel:=by
 intro H enc base sp hd cs x h hw
 obtain⟨xs,n,hfu,rfl,hl,hxl,hx⟩:=DataW.trod_struct ht h
 obtain⟨ds,h1,h2⟩:=Qe0 (enc:=enc) (base:=base) (sp:=sp) (hd:=hd) (n:=n) (N:=fuel) (by omega) (cs:=cs) fs.toList As 0 hf (by rw[hs,hl];omega) fun f hf=>by
  obtain⟨i,hi⟩:=List.mem_iff_getElem?.1 hf
  have hi':fs[i]? =some f:=by simpa using hi
  have:=hx i f hi'
  have hlt:i<xs.length:=by rw[hxl];exact(Array.getElem?_eq_some_iff.1 hi').1
  rw[List.getElem?_eq_getElem hlt]at this
  refine⟨_,this,fun k hk=>hw k ?_⟩
  simp only[DataW.weights,ht]
  exact DataW.weights_mem_each (j:=i) (by simp[hi']) (by simp[List.getElem?_eq_getElem hlt]) k hk
 exact⟨ds,h1,by simpa using h2⟩
theorem Qik{fs:Array Field}{As:List (List D→Prop)}(ht:P.underlying t=some (.struct fs))(hf:FOpens P w 0 fs.toList As)(hs:QkV P fs.toList=P.cellsOf t):Opens P w t (cat As):=fun _=>QfQ ht hf.at hs
theorem Qje{g':Gh}{w':World}(h:WF (Gh.still w) w g' w'):Below w.heap.size w w':=
 ⟨h.os,h.tape,h.output,h.size,fun k hk=>(h.idle k hk (.inl rfl)).1⟩
end
end Go.Abs
namespace Go.Abs
open Go.RowKit
variable [Tab]
theorem arg_vr{w:World}{d:D}{v:Value}(h:DL w [d] [v]):VR (Gh.still w) w (.d d) v∧Triv (.d d) v:=⟨.d _ _ (h.dr 0 d v rfl rfl),Triv.d _ _⟩
def ArgsOK(w:World):List AV→List Value→Prop
 | [],[]=>True
 |x::xs,v::vs=>(VR (Gh.still w) w x v∧Triv x v)∧ArgsOK w xs vs
 |_,_=>False
theorem ArgsOK.get{w:World}:∀ {xs:List AV} {vs:List Value},ArgsOK w xs vs→xs.length=vs.length∧∀(i:Nat) x v,xs[i]? =some x→vs[i]? =some v→VR (Gh.still w) w x v∧Triv x v
 | [],[],_=>⟨rfl,fun i x v h=>by simp at h⟩
 |x::xs,v::vs,h=>by
  obtain⟨h1,h2⟩:=ArgsOK.get h.2
  refine⟨by simp[h1],fun i y u hy hu=> ?_⟩
  cases i with
  |zero=>simp at hy hu;subst hy hu;exact h.1
  |succ i=>exact h2 i y u (by simpa using hy) (by simpa using hu)
def QlH(w:World):Prop:=∀n cs,Tab.tab n=some cs→VR (Gh.still w) w (.pref cs) (.pointer (some ⟨n,0,none⟩))
theorem QmY{P:Program}{code:FuncId→Option CFn}{prim:FuncId→Option Qba}(hmx:P.follows .mixedOrders=true)(hc:Qhh P code)(hp:∀f F,prim f=some F→FSound P f F){k:Nat}{f:FuncId}{args:List AV}{b:Bool}
  (hpf:prim f=none)(h:QaE code prim k f 0 args []=some (.d (.bool b),[])){vals:Array Value}{w:World}(hG:QlH w)(hv:ArgsOK w args vals.toList):Calls P f vals w fun e w'=>e= .returned (.bool b)∧Below w.heap.size w w':=by
 obtain⟨h1,h2⟩:=hv.get
 refine Calls.mono (Ql5 hmx hc hp hpf h (QkZ w hG) (fun b=>by simp[Gh.still]) (by simpa using h1) fun i x v hx hv=>h2 i x v hx (by simpa using hv)) ?_
 rintro e w' ⟨v,g',rfl,hw,hvr⟩
 exact⟨by rw[QcV hvr],Qje hw⟩
def noPrim:FuncId→Option Qba:=fun _=>none
def AllOK(P:Program):Nat→List (Option CFn)→Prop
 |_,[]=>True
 |n,none::l=>AllOK P (n+1) l
 |n,some c::l=>(∃tk keep kp,Qaa P tk keep kp n=some c)∧AllOK P (n+1) l
theorem AllOK.get{P:Program}:∀ {l:List (Option CFn)} {n:Nat},AllOK P n l→∀(i:Nat) c,l[i]? =some (some c)→∃tk keep kp,Qaa P tk keep kp (n+i)=some c
 | [],_,_,i,c,h=>by simp at h
 |none::l,n,hl,i,c,h=>by
  cases i with
  |zero=>simp at h
  |succ i=>have:=AllOK.get (l:=l) (n:=n+1) hl i c (by simpa using h);rwa [Nat.add_assoc,Nat.add_comm 1 i]at this
 |some d::l,n,hl,i,c,h=>by
  cases i with
  |zero=>simp at h;subst h;exact hl.1
  |succ i=>have:=AllOK.get (l:=l) (n:=n+1) hl.2 i c (by simpa using h);rwa [Nat.add_assoc,Nat.add_comm 1 i]at this
end Go.Abs
namespace Go.Abs
variable [Tab]
section
variable (X:Nat→Qa0)
def Ev(f:FuncId)(lim:Nat)(args:List AV)(H:Qab)(v:AV)(H':Qab):Prop:=
 ∃k0,∀k,k0≤k→X k f lim args H=some (v,H')
def Fn(f:FuncId)(lim:Nat)(args:List AV)(H:Qab)(Q:AV→Qab→Prop):Prop:=
 ∃v H',Ev X f lim args H v H'∧Q v H'
def W(lim:Nat)(c:CCode)(st:St)(Q:AExit→St→Prop):Prop:=
 ∃e st',(∃k0,∀k n,k0≤k→k0≤n→evalC (X k) lim (fun b s=>Qas b n s) c st=some (e,st'))∧Q e st'
def WO(lim:Nat)(ops:List COper)(st:St)(Q:St→Prop):Prop:=
 ∃st',(∃k0,∀k,k0≤k→runOps (X k) lim ops st=some st')∧Q st'
variable {X} {lim:Nat}
theorem Ev.fn{f:FuncId}{args:List AV}{H H':Qab}{v:AV}{Q:AV→Qab→Prop}(h:Ev X f lim args H v H')(hq:Q v H'):Fn X f lim args H Q:=⟨v,H',h,hq⟩
theorem Fn.mono{f:FuncId}{args:List AV}{H:Qab}{Q Q':AV→Qab→Prop}(h:Fn X f lim args H Q)(hq:∀v H',Q v H'→Q' v H'):Fn X f lim args H Q':=by
 obtain⟨v,H',h1,h2⟩:=h
 exact⟨v,H',h1,hq _ _ h2⟩
theorem W.mono{c:CCode}{st:St}{Q Q':AExit→St→Prop}(h:W X lim c st Q)(hq:∀e s,Q e s→Q' e s):W X lim c st Q':=by
 obtain⟨e,s,h1,h2⟩:=h
 exact⟨e,s,h1,hq _ _ h2⟩
theorem WO.mono{ops:List COper}{st:St}{Q Q':St→Prop}(h:WO X lim ops st Q)(hq:∀s,Q s→Q' s):WO X lim ops st Q':=by
 obtain⟨s,h1,h2⟩:=h
 exact⟨s,h1,hq _ h2⟩
theorem Qhe{st:St}{Q:AExit→St→Prop}(h:Q .normal st):W X lim .skip st Q:=⟨_,_,⟨0,fun k n _ _=>rfl⟩,h⟩
theorem Qhf{id:Nat}{st:St}{Q:AExit→St→Prop}(h:Q (.exit id) st):W X lim (.exit id) st Q:=⟨_,_,⟨0,fun k n _ _=>rfl⟩,h⟩
theorem QlG{st:St}{Q:AExit→St→Prop}(h:Q .ret st):W X lim .ret st Q:=⟨_,_,⟨0,fun k n _ _=>rfl⟩,h⟩
theorem W_seq{a b:CCode}{st:St}{Q:AExit→St→Prop}(h:W X lim a st fun e s=>(e= .normal→W X lim b s Q)∧(e≠ .normal→Q e s)):W X lim (.seq a b) st Q:=by
 obtain⟨e,s,⟨k1,h1⟩,h2,h3⟩:=h
 by_cases he:e= .normal
 ·subst he
  obtain⟨e',s',⟨k2,h4⟩,h5⟩:=h2 rfl
  refine⟨e',s',⟨k1+k2,fun k n hk hn=> ?_⟩,h5⟩
  simp only[evalC,h1 k n (by omega) (by omega)]
  exact h4 k n (by omega) (by omega)
 ·refine⟨e,s,⟨k1,fun k n hk hn=> ?_⟩,h3 he⟩
  simp only[evalC,h1 k n hk hn]
  split
  ·rename_i heq;simp at heq;exact absurd heq.1 he
  ·rfl
theorem W_cond{c:Opd}{a b:CCode}{st:St}{Q:AExit→St→Prop}(t:Bool)(hc:evx st.T [] c= .d (.bool t))(h:W X lim (if t=true then a else b) st Q):W X lim (.cond c a b) st Q:=by
 obtain⟨e,s,⟨k1,h1⟩,h2⟩:=h
 refine⟨e,s,⟨k1,fun k n hk hn=> ?_⟩,h2⟩
 have:=h1 k n hk hn
 simp only[evalC,hc]
 cases t<;>simpa using this
theorem W_block{id:Nat}{a:CCode}{st:St}{Q:AExit→St→Prop}(h:W X lim a st fun e s=>(e= .exit id→Q .normal s)∧(e≠ .exit id→Q e s)):W X lim (.block id a) st Q:=by
 obtain⟨e,s,⟨k1,h1⟩,h2,h3⟩:=h
 by_cases he:e= .exit id
 ·subst he
  refine⟨_,s,⟨k1,fun k n hk hn=> ?_⟩,h2 rfl⟩
  simp only[evalC,h1 k n hk hn,if_true]
 ·refine⟨e,s,⟨k1,fun k n hk hn=> ?_⟩,h3 he⟩
  simp only[evalC,h1 k n hk hn]
  split
  ·rename_i heq
   simp only[Option.some.injEq,Prod.mk.injEq]at heq
   obtain⟨rfl,rfl⟩:=heq
   split
   ·rename_i hi;subst hi;exact absurd rfl he
   ·rfl
  ·rfl
theorem W_loop{a:CCode}{Q:AExit→St→Prop}(I:Nat→St→Prop)(h:∀n st,I n st→W X lim a st fun e s=>(e= .normal→∃m,m<n∧I m s)∧(e≠ .normal→Q e s)):
  ∀n st,I n st→W X lim (.loop a) st Q:=by
 have key:∀n st,I n st→∃e s,(∃k0,∀k n m,k0≤k→k0≤n→k0≤m→Qas (fun s=>match evalC (X k) lim (fun b s=>Qas b n s) a s with
   |some (.normal,s')=>some (.inl s')
   |some r=>some (.inr r)
   |none=>none) m st=some (e,s))∧Q e s:=by
  intro n
  induction n using Nat.strongRecOn with
  |_ n ih=>
   intro st hi
   obtain⟨e,s,⟨k1,h1⟩,h2,h3⟩:=h n st hi
   by_cases he:e= .normal
   ·subst he
    obtain⟨m,hm,hi'⟩:=h2 rfl
    obtain⟨e',s',⟨k2,h4⟩,h5⟩:=ih m hm s hi'
    refine⟨e',s',⟨k1+k2+1,fun k n m hk hn hm=> ?_⟩,h5⟩
    obtain⟨m,rfl⟩:∃p,m=p+1:=⟨m-1,by omega⟩
    simp only[Qas,h1 k n (by omega) (by omega)]
    exact h4 k n m (by omega) (by omega) (by omega)
   ·refine⟨e,s,⟨k1+1,fun k n m hk hn hm=> ?_⟩,h3 he⟩
    obtain⟨m,rfl⟩:∃p,m=p+1:=⟨m-1,by omega⟩
    simp only[Qas,h1 k n (by omega) (by omega)]
    split
    ·rename_i heq
     split at heq
     ·rename_i heq';simp at heq';exact absurd heq'.1 he
     ·simp at heq
     ·simp at heq
    ·rename_i heq
     split at heq
     ·rename_i heq';simp at heq';exact absurd heq'.1 he
     ·rename_i heq'
      simp only[Option.some.injEq,Sum.inr.injEq]at heq heq'
      rw[←heq,←heq']
     ·simp at heq
    ·rename_i heq
     split at heq
     ·simp at heq
     ·simp at heq
     ·rename_i heq';simp at heq'
 intro n st hi
 obtain⟨e,s,⟨k0,h1⟩,h2⟩:=key n st hi
 exact⟨e,s,⟨k0,fun k n hk hn=>h1 k n n hk hn hn⟩,h2⟩
theorem W_region{ops:List COper}{fg:List Nat}{st:St}{Q:AExit→St→Prop}(h:WO X lim ops st fun s=>Q .normal ⟨forgetT s.T fg,s.H⟩):W X lim (.region ops none fg) st Q:=by
 obtain⟨s,⟨k1,h1⟩,h2⟩:=h
 refine⟨_,_,⟨k1,fun k n hk hn=> ?_⟩,h2⟩
 simp only[evalC,evalR,h1 k hk]
theorem W_draw{ops:List COper}{chk:Option Chk}{fg:List Nat}{st st':St}{Q:AExit→St→Prop}(h:∃k0,∀k,k0≤k→evalR (X k) lim ops chk fg st=some st')(hq:Q .normal st'):W X lim (.region ops chk fg) st Q:=by
 obtain⟨k1,h1⟩:=h
 refine⟨_,_,⟨k1,fun k n hk hn=> ?_⟩,hq⟩
 simp only[evalC,h1 k hk]
theorem WO_call{dst:Option Nat}{cons:List Nat}{f:FuncId}{args:List Opd}{os:List COper}{st:St}{Q:St→Prop}
  (h:Fn X f lim (args.map (evx st.T cons)) st.H fun v H'=>WO X lim os ⟨put (unflag st.T cons) dst v,H'⟩ Q):WO X lim (⟨dst,.call f args,none,cons⟩::os) st Q:=by
 obtain⟨v,H',⟨k1,h1⟩,s,⟨k2,h2⟩,h3⟩:=h
 refine⟨s,⟨k1+k2,fun k hk=> ?_⟩,h3⟩
 simp only[runOps,stepOp,wanted,aop,h1 k (by omega)]
 exact h2 k (by omega)
end
section
variable {code:FuncId→Option CFn} {prim:FuncId→Option Qba} {lim:Nat}
def Answers(fn:CFn)(H:Qab)(Q:AV→Qab→Prop)(e:AExit)(s:St):Prop:=
 (∀i,e≠ .exit i)∧∃vs,Qbw s.T s.H fn.res=some vs∧if fn.keep then Q (QbD vs) s.H else ∃v,freeze s.H H.length (QbD vs)=some v∧Q v H
theorem Fn_code{f:FuncId}{fn:CFn}{args:List AV}{H:Qab}{Q:AV→Qab→Prop}(hp:prim f=none)(hct:Tab.cut f=false)(hc:code f=some fn)(hl:args.length=fn.nargs)
  (h:W (QaE code prim) (if fn.keep then lim else H.length) fn.body ⟨args++List.replicate (fn.ntmps-args.length) (.tuple []),H⟩ (Answers fn H Q)):Fn (QaE code prim) f lim args H Q:=by
 obtain⟨e,s,⟨k0,h1⟩,h2,vs,h3,h4⟩:=h
 have key:∀k,k0+1≤k→QaE code prim k f lim args H=if fn.keep then some (QbD vs,s.H)else(freeze s.H H.length (QbD vs)).map (·,H):=by
  intro k hk
  obtain⟨k,rfl⟩:∃p,k=p+1:=⟨k-1,by omega⟩
  have h5:=h1 k k (by omega) (by omega)
  simp only[QaE,hp,hc,QgC,hct,Bool.false_eq_true,if_false,Qfb,hl,if_true]
  rw[hl]at h5
  rw[h5]
  cases e with
  |exit i=>exact absurd rfl (h2 i)
  |normal=>simp only[h3]
  |ret=>simp only[h3]
 by_cases hk:fn.keep=true
 ·rw[if_pos hk]at h4
  refine⟨QbD vs,s.H,⟨k0+1,fun k h=> ?_⟩,h4⟩
  rw[key k h,if_pos hk]
 ·rw[if_neg hk]at h4
  obtain⟨v,h5,h6⟩:=h4
  refine⟨v,H,⟨k0+1,fun k h=> ?_⟩,h6⟩
  rw[key k h,if_neg hk,h5]
  rfl
theorem Ev.at{X:Nat→Qa0}{f:FuncId}{args:List AV}{H H':Qab}{v:AV}(h:Ev X f lim args H v H'):∃k,X k f lim args H=some (v,H'):=by
 obtain⟨k,h⟩:=h
 exact⟨k,h k (Nat.le_refl _)⟩
end
section
variable (X:Nat→Qa0) (lim:Nat)
def seqK(b:CCode)(Q:AExit→St→Prop):AExit→St→Prop
 |.normal,s=>W X lim b s Q
 |.exit i,s=>Q (.exit i) s
 |.ret,s=>Q .ret s
def blockK(id:Nat)(Q:AExit→St→Prop):AExit→St→Prop
 |.exit i,s=>if i=id then Q .normal s else Q (.exit i) s
 |.normal,s=>Q .normal s
 |.ret,s=>Q .ret s
def loopK(I:Nat→St→Prop)(n:Nat)(Q:AExit→St→Prop):AExit→St→Prop
 |.normal,s=>∃m,m<n∧I m s
 |.exit i,s=>Q (.exit i) s
 |.ret,s=>Q .ret s
def ansK(keep:Bool)(res:List CRes)(H:Qab)(Q:AV→Qab→Prop):AExit→St→Prop
 |.exit _,_=>False
 |.normal,s=>∃vs,Qbw s.T s.H res=some vs∧if keep=true then Q (QbD vs) s.H else ∃v,freeze s.H H.length (QbD vs)=some v∧Q v H
 |.ret,s=>∃vs,Qbw s.T s.H res=some vs∧if keep=true then Q (QbD vs) s.H else ∃v,freeze s.H H.length (QbD vs)=some v∧Q v H
variable {X} {lim}
theorem QlL{a b:CCode}{st:St}{Q:AExit→St→Prop}(h:W X lim a st (seqK X lim b Q)):W X lim (.seq a b) st Q:=
 W_seq (h.mono fun e s hq=>⟨fun he=>by subst he;exact hq,fun he=>by cases e<;>first|exact absurd rfl he|exact hq⟩)
theorem W_bk{id:Nat}{a:CCode}{st:St}{Q:AExit→St→Prop}(h:W X lim a st (blockK id Q)):W X lim (.block id a) st Q:=
 W_block (h.mono fun e s hq=>⟨fun he=>by subst he;simpa[blockK]using hq,fun he=>by
  cases e with
  |exit i=>
   simp only[blockK]at hq
   rw[if_neg (fun h=>he (by rw[h]))]at hq
   exact hq
  |_=>exact hq⟩)
theorem W_lp{a:CCode}{Q:AExit→St→Prop}(I:Nat→St→Prop)(h:∀n st,I n st→W X lim a st (loopK I n Q))(n:Nat)(st:St)(hi:I n st):W X lim (.loop a) st Q:=
 W_loop I (fun n st hi=>(h n st hi).mono fun e s hq=>⟨fun he=>by subst he;exact hq,fun he=>by cases e<;>first|exact absurd rfl he|exact hq⟩) n st hi
theorem W_rg{ops:List COper}{chk:Option Chk}{fg:List Nat}{st st':St}{Q:AExit→St→Prop}(h:∀k,evalR (X k) lim ops chk fg st=some st')(hq:Q .normal st'):W X lim (.region ops chk fg) st Q:=
 W_draw ⟨0,fun k _=>h k⟩ hq
theorem W_cT{c:Opd}{a b:CCode}{st:St}{Q:AExit→St→Prop}(hc:evx st.T [] c= .d (.bool true))(h:W X lim a st Q):W X lim (.cond c a b) st Q:=W_cond true hc h
theorem W_cF{c:Opd}{a b:CCode}{st:St}{Q:AExit→St→Prop}(hc:evx st.T [] c= .d (.bool false))(h:W X lim b st Q):W X lim (.cond c a b) st Q:=W_cond false hc h
def onlyK(P:St→Prop):AExit→St→Prop
 |.normal,s=>P s
 |.exit _,_=>False
 |.ret,_=>False
theorem WO_take{ops:List COper}{st st':St}{Q:St→Prop}(n:Nat)(h:∀k,runOps (X k) lim (ops.take n) st=some st')(k:WO X lim (ops.drop n) st' Q):WO X lim ops st Q:=by
 have key:∀(n:Nat) (ops:List COper) (st:St) (E:Qa0),runOps E lim (ops.take n) st=some st'→runOps E lim ops st=runOps E lim (ops.drop n) st':=by
  intro n
  induction n with
  |zero=>intro ops st E h;simp[runOps]at h;simp[h]
  |succ n ih=>
   intro ops st E h
   cases ops with
   |nil=>simp[runOps]at h;simp[h]
   |cons o os=>
    simp only[List.take_succ_cons,runOps]at h
    simp only[List.drop_succ_cons]
    rw[runOps]
    cases hs:stepOp E lim o st with
    |none=>rw[hs]at h;simp at h
    |some s=>
     rw[hs]at h
     exact ih os s E h
 obtain⟨s,⟨k0,h1⟩,h2⟩:=k
 exact⟨s,⟨k0,fun j hj=>by rw[key n ops st _ (h j)];exact h1 j hj⟩,h2⟩
theorem WO_end{ops:List COper}{st st':St}{Q:St→Prop}(h:∀k,runOps (X k) lim ops st=some st')(hq:Q st'):WO X lim ops st Q:=⟨_,⟨0,fun k _=>h k⟩,hq⟩
end
section
variable {code:FuncId→Option CFn} {prim:FuncId→Option Qba} {lim:Nat}
theorem QbU{f:FuncId}{args:List AV}{H:Qab}{Q:AV→Qab→Prop}{na nt:Nat}{keep:Bool}{body:CCode}{res:List CRes}(hp:prim f=none)(hct:Tab.cut f=false)(hc:code f=some ⟨na,nt,keep,body,res⟩)(hl:args.length=na)
  (h:W (QaE code prim) (if keep=true then lim else H.length) body ⟨args++List.replicate (nt-args.length) (.tuple []),H⟩ (ansK keep res H Q)):Fn (QaE code prim) f lim args H Q:=by
 refine Fn_code hp hct hc hl (h.mono fun e s hq=> ?_)
 cases e with
 |exit i=>exact hq.elim
 |normal=>exact⟨fun i=>by simp,hq⟩
 |ret=>exact⟨fun i=>by simp,hq⟩
def ansC(res:List CRes)(H:Qab)(r:Nat)(Q:AV→Qab→Prop):AExit→St→Prop
 |.exit _,_=>False
 |_,s=>∃vs o G v,Qbw s.T s.H res=some vs∧s.H=H.set r o++G∧r<H.length∧scO H.length o=true∧freeze s.H H.length (QbD vs)=some v∧Q v (H.set r o)
theorem Fn_ofC{f:FuncId}{r:Nat}{as:List AV}{H:Qab}{Q:AV→Qab→Prop}{na nt:Nat}{body:CCode}{res:List CRes}(hp:prim f=none)(hct:Tab.cut f=true)(hc:code f=some ⟨na,nt,true,body,res⟩)(hl:(AV.ptr r 0::as).length=na)
  (h:W (QaE code prim) lim body ⟨(AV.ptr r 0::as)++List.replicate (nt-(AV.ptr r 0::as).length) (.tuple []),H⟩ (ansC res H r Q)):Fn (QaE code prim) f lim (.ptr r 0::as) H Q:=by
 obtain⟨e,s,⟨k0,h1⟩,hq⟩:=h
 have key:∃vs o G v,Qbw s.T s.H res=some vs∧s.H=H.set r o++G∧r<H.length∧scO H.length o=true∧freeze s.H H.length (QbD vs)=some v∧Q v (H.set r o):=by
  cases e with
  |exit i=>exact hq.elim
  |normal=>exact hq
  |ret=>exact hq
 have hne:∀i,e≠ .exit i:=fun i he=>by subst he;exact hq.elim
 obtain⟨vs,o,G,v,q1,q2,q3,q4,q5,q6⟩:=key
 refine⟨v,H.set r o,⟨k0+1,fun k hk=> ?_⟩,q6⟩
 obtain⟨k,rfl⟩:∃p,k=p+1:=⟨k-1,by omega⟩
 have h5:=h1 k k (by omega) (by omega)
 rw[hl]at h5
 have hF:Qfb (QaE code prim k) (Qas · k) ⟨na,nt,true,body,res⟩ lim (.ptr r 0::as) H=some (QbD vs,s.H):=by
  simp only[Qfb,hl,if_true]
  rw[h5]
  cases e with
  |exit i=>exact absurd rfl (hne i)
  |normal=>simp only[q1]
  |ret=>simp only[q1]
 have hr:s.H[r]? =some o:=by
  rw[q2,List.getElem?_append_left (by rw[List.length_set];exact q3),List.getElem?_set_self q3]
 have ht:s.H.take H.length=H.set r o:=by
  rw[q2,List.take_append_of_le_length (by rw[List.length_set];exact Nat.le_refl _),List.take_of_length_le (by rw[List.length_set];exact Nat.le_refl _)]
 simp only[QaE,hp,hc,QgC,hct,if_true,cutF,hF,hr,q5,ht,QbR]
 rw[if_pos ⟨q3,q4,trivial⟩]
theorem QaU{res:List CRes}{H:Qab}{Q:AV→Qab→Prop}{s:St}{vs:List AV}(h:Qbw s.T s.H res=some vs)(hq:Q (QbD vs) s.H):ansK true res H Q .ret s:=⟨vs,h,by rw[if_pos rfl];exact hq⟩
theorem Qah{res:List CRes}{H:Qab}{Q:AV→Qab→Prop}{s:St}{vs:List AV}{v:AV}(h:Qbw s.T s.H res=some vs)(hf:freeze s.H H.length (QbD vs)=some v)(hq:Q v H):ansK false res H Q .ret s:=⟨vs,h,by rw[if_neg (by simp)];exact⟨v,hf,hq⟩⟩
theorem Fn.ev{X:Nat→Qa0}{f:FuncId}{args:List AV}{H H':Qab}{v:AV}(h:Fn X f lim args H fun v' H''=>v'=v∧H''=H'):Ev X f lim args H v H':=by
 obtain⟨v',H'',h1,rfl,rfl⟩:=h
 exact h1
end
theorem Qkj(a b c d:Nat):((a,b)==(c,d))=(a==c&&b==d):=rfl
theorem w64{n:Int}(h: -9223372036854775808≤n)(k:n≤9223372036854775807):IntKind.i64.wrap n=n:=by
 exact IntWalk.i64_in n ⟨h,k⟩
theorem QkS{n:Nat}(h:n<9223372036854775807):IntKind.i64.wrap ((n:Int)+1)=((n+1:Nat):Int):=by
 rw[w64 (by omega) (by omega)];omega
theorem QgZ(n:Nat):(0≤(n:Int))=True:=by simp
theorem QaC(T:List AV)(H:Qab)(F:(Nat→AV)→List AV)(h:T=F fun n=>T.getD n .undef):∃x,(⟨T,H⟩:St)=⟨F x,H⟩:=⟨_,by rw[←h]⟩
theorem W_fork{X:Nat→Qa0}{lim:Nat}{c:Opd}{a b:CCode}{st:St}{Q:AExit→St→Prop}{e:AExit}{T1 T2:List AV}{H:Qab}(hc:evx st.T [] c= .ubool)(h1:W X lim a st fun e' s=>e'=e∧s=⟨T1,H⟩)(h2:W X lim b st fun e' s=>e'=e∧s=⟨T2,H⟩)
  (hl:T1.length=T2.length)(hq:Q e ⟨QdJ T1 T2,H⟩):W X lim (.cond c a b) st Q:=by
 obtain⟨e1,s1,⟨k1,q1⟩,rfl,rfl⟩:=h1
 obtain⟨e2,s2,⟨k2,q2⟩,rfl,rfl⟩:=h2
 refine⟨_,_,⟨k1+k2,fun k n hk hn=> ?_⟩,hq⟩
 simp only[evalC,hc,q1 k n (by omega) (by omega),q2 k n (by omega) (by omega),QiD]
 rw[if_pos ⟨trivial,hl,QbR _⟩]
theorem ev_mk{X:Nat→Qa0}{f lim k0:Nat}{a:List AV}{H J:Qab}{v:AV}(h:∀k,k0≤k→X k f lim a H=some (v,J)):Fn X f lim a H fun v' J'=>v'=v∧J'=J:=⟨v,J,⟨k0,h⟩,rfl,rfl⟩
def Evl(P:Nat→Prop):Prop:=∃k0,∀k,k0≤k→P k
theorem Evl.all{P:Nat→Prop}(h:∀k,P k):Evl P:=⟨0,fun k _=>h k⟩
theorem Evl.call{X:Nat→Qa0}{f lim:Nat}{a:List AV}{H J:Qab}{v:AV}{P:Nat→Prop}(e:Ev X f lim a H v J)(h:Evl fun k=>X k f lim a H=some (v,J)→P k):Evl P:=by
 obtain⟨k1,h1⟩:=e
 obtain⟨k2,h2⟩:=h
 exact⟨k1+k2,fun k hk=>h2 k (by omega) (h1 k (by omega))⟩
theorem Qi3{X:Nat→Qa0}{lim:Nat}{ops:List COper}{chk:Option Chk}{fg:List Nat}{st st':St}{Q:AExit→St→Prop}(h:Evl fun k=>evalR (X k) lim ops chk fg st=some st')(hq:Q .normal st'):W X lim (.region ops chk fg) st Q:=W_draw h hq
attribute [irreducible] onlyK W WO Fn Ev ansK ansC seqK blockK loopK
theorem QiJ{H:Qab}{r:Nat}{o:AObj}(x:AObj)(h:H[r]? =some o):(H.set r x)[r]? =some x:=by
 have:=(List.getElem?_eq_some_iff.1 h).1
 simp[this]
theorem Qdv(H:Qab)(x:AObj):(H++ [x])[H.length]? =some x:=by simp
theorem Qka(H:Qab)(x y:AObj):(H++ [x]).set H.length y=H++ [y]:=by simp
abbrev bD(s:List UInt8):D:= .slice (s.map Qai)
theorem Qci(b:UInt8):(Qai b).cells= [Qai b]:=rfl
theorem Qbs(s:List UInt8):bytesOf (s.map Qai)=some s:=by
 induction s with
 |nil=>rfl
 |cons b s ih=>
  simp only[List.map_cons,Qai,bytesOf]
  have:bytesOf (s.map fun b=>D.int IntKind.u8 (b.toNat:Int))=some s:=ih
  rw[show List.map Qai s=s.map fun b=>D.int IntKind.u8 (b.toNat:Int)from rfl,this]
  simp
theorem Qaz(s:List UInt8):QaS 1 (s.map Qai)=true:=by
 cases s<;>simp[QaS,Qci]
theorem QeD(sz:Nat):QaS sz []=true:=rfl
theorem Qf5(sz:Nat)(x:D)(l:List D):QaS sz (x::l)=(x.cells.length==sz):=rfl
end Go.Abs
namespace Go.Abs
variable [Tab]
structure ME where
 n:Nat
 p:Nat
 ex:Bool
 deriving Inhabited,Repr,DecidableEq
abbrev RM:=List ME
def QlK(M:RM)(n:Nat):Option ME:=M.find? (·.n==n)
def QbP(M:RM)(n:Nat):Nat:=match QlK M n with
 |some e=>e.p
 |none=>0
def rnO(M:RM):Opd→Opd
 |.c v=> .c v
 |.t n=> .t (QbP M n)
def COp.mapO(g:Opd→Opd):COp→COp
 |.move x=> .move (g x)
 |.pick c a b=> .pick (g c) (g a) (g b)
 |.new cs=> .new cs
 |.box x=> .box (g x)
 |.build z ps=> .build z (ps.map fun p=>(p.1,p.2.1,g p.2.2))
 |.buildSl s z n ps=> .buildSl s z n (ps.map fun p=>(p.1,g p.2))
 |.buildLit s z n ps=> .buildLit s z n (ps.map fun p=>(p.1,g p.2))
 |.load a s x=> .load a s (g x)
 |.loadTake x=> .loadTake (g x)
 |.store s a v=> .store s (g a) (g v)
 |.nilCheck x=> .nilCheck (g x)
 |.bin o k x y=> .bin o k (g x) (g y)
 |.nilSl b x=> .nilSl b (g x)
 |.un o x=> .un o (g x)
 |.toInt k x=> .toInt k (g x)
 |.same x=> .same (g x)
 |.sameSl x=> .sameSl (g x)
 |.toBytes x=> .toBytes (g x)
 |.toStr x=> .toStr (g x)
 |.ofRune x=> .ofRune (g x)
 |.mkIface t x=> .mkIface t (g x)
 |.mkFunc f cs=> .mkFunc f (cs.map g)
 |.mkMap k=> .mkMap k
 |.mkSl s b z l c=> .mkSl s b z (g l) (g c)
 |.slStr x l h=> .slStr (g x) (l.map g) (h.map g)
 |.sl s x l h m=> .sl s (g x) (l.map g) (h.map g) (m.map g)
 |.slArr n s x l h=> .slArr n s (g x) (l.map g) (h.map g)
 |.fieldAddr o x=> .fieldAddr o (g x)
 |.field a o s x=> .field a o s (g x)
 |.idxSl s x i=> .idxSl s (g x) (g i)
 |.idxArr n s x i=> .idxArr n s (g x) (g i)
 |.idxStr x i=> .idxStr (g x) (g i)
 |.idxAgg n a s x i=> .idxAgg n a s (g x) (g i)
 |.lookup k z x i ok=> .lookup k z (g x) (g i) ok
 |.mapSet k m x v=> .mapSet k (g m) (g x) (g v)
 |.rngStr x=> .rngStr (g x)
 |.nextStr x=> .nextStr (g x)
 |.extract x i=> .extract (g x) i
 |.len k x=> .len k (g x)
 |.append s b str x y=> .append s b str (g x) (g y)
 |.appendO s b str x y=> .appendO s b str (g x) (g y)
 |.copy s str x y=> .copy s str (g x) (g y)
 |.minI xs=> .minI (xs.map g)
 |.maxI xs=> .maxI (xs.map g)
 |.delete k m x=> .delete k (g m) (g x)
 |.call f as=> .call f (as.map g)
 |.callV f as=> .callV (g f) (as.map g)
 |.panic x=> .panic (g x)
set_option maxHeartbeats 4000000 in
theorem Qnz(E:Qa0)(lim:Nat)(H:Qab)(ρ:Opd→AV)(g:Opd→Opd)(o:COp):aop E lim H ρ (o.mapO g)=aop E lim H (fun x=>ρ (g x)) o:=by
 have opt:∀(n:Nat) (x:Option Opd),optInt ρ n (x.map g)=optInt (fun x=>ρ (g x)) n x:=fun n x=>by cases x<;>rfl
 cases o with
 |sl s x l h m=>cases l<;>cases h<;>cases m<;>rfl
 |slStr x l h=>simp only[COp.mapO,aop,opt]
 |slArr n s x l h=>simp only[COp.mapO,aop,opt]
 |build z ps=>simp only[COp.mapO,aop,List.map_map];rfl
 |buildSl s z n ps=>simp only[COp.mapO,aop,List.map_map];rfl
 |buildLit s z n ps=>simp only[COp.mapO,aop,List.map_map];rfl
 |mkFunc f cs=>simp only[COp.mapO,aop,List.map_map];rfl
 |minI xs=>simp only[COp.mapO,aop,List.map_map];rfl
 |maxI xs=>simp only[COp.mapO,aop,List.map_map];rfl
 |call f as=>simp only[COp.mapO,aop,List.map_map];rfl
 |callV f as=>simp only[COp.mapO,aop,List.map_map];rfl
 |_=>rfl
def Le(E' E:Qa0):Prop:=∀f lim a H r,E' f lim a H=some r→E f lim a H=some r
set_option maxHeartbeats 4000000 in
theorem aop_le{E' E:Qa0}(hE:Le E' E){lim:Nat}{H:Qab}{ρ:Opd→AV}{o:COp}{r:AV×Qab}(h:aop E' lim H ρ o=some r):aop E lim H ρ o=some r:=by
 cases o with
 |call f as=>exact hE _ _ _ _ _ h
 |callV f as=>
  simp only[aop]at h⊢
  revert h
  cases ρ f with
  |func fn caps=>cases fn with
   |func g=>exact fun h=>hE _ _ _ _ _ h
   |_=>exact fun h=>h
  |_=>exact fun h=>h
 |_=>exact h
def Rel(M:RM)(T T':List AV):Prop:=∀e∈M,if e.ex=true then T'.getD e.p .undef=T.getD e.n .undef else(T'.getD e.p .undef).unf=T.getD e.n .undef
def okO(M:RM)(cons:List Nat):Opd→Bool
 |.c _=>true
 |.t n=>match QlK M n with
  |some e=>(cons.contains n==(cons.map (QbP M)).contains e.p)&&(!cons.contains n||e.ex)
  |none=>false
def Qkr(M:RM)(cons:List Nat):Bool:=M.all fun e=> !e.ex||(cons.contains e.n==(cons.map (QbP M)).contains e.p)
theorem Qd4{M:RM}{n:Nat}{e:ME}(h:QlK M n=some e):e∈M∧e.n=n∧QbP M n=e.p:=by
 unfold QlK at h
 have h1:=List.mem_of_find?_eq_some h
 have h2:=List.find?_some h
 exact⟨h1,by simpa using h2,by simp[QbP,QlK,h]⟩
theorem Qfv(a:AV):a.unf.unf=a.unf:=by cases a<;>rfl
theorem Qg6{M:RM}{T T':List AV}(hR:Rel M T T'){cons:List Nat}{x:Opd}(hx:okO M cons x=true):evx T' (cons.map (QbP M)) (rnO M x)=evx T cons x:=by
 cases x with
 |c v=>rfl
 |t n=>
  simp only[okO]at hx
  split at hx
  ·rename_i e he
   obtain⟨h1,h2,h3⟩:=Qd4 he
   simp only[Bool.and_eq_true,beq_iff_eq,Bool.or_eq_true,Bool.not_eq_true']at hx
   obtain⟨hx1,hx2⟩:=hx
   have hr:=hR e h1
   simp only[rnO,evx,h3,←hx1]
   by_cases hc:cons.contains n=true
   ·rw[if_pos hc,if_pos hc]
    have:e.ex=true:=hx2.resolve_left (by rw[hc];simp)
    rw[if_pos this]at hr
    rw[hr,h2]
   ·rw[if_neg hc,if_neg hc]
    split at hr
    ·rw[hr,h2]
    ·rw[hr,h2,←h2,←hr,Qfv]
  ·simp at hx
theorem Qf7(T:List AV)(cons:List Nat)(i:Nat):(unflag T cons).getD i .undef=if i∈cons then(T.getD i .undef).unf else T.getD i .undef:=by
 simp only[List.getD,Qcw]
 split
 ·cases T[i]? <;>rfl
 ·rfl
theorem Qk8{M:RM}{T T':List AV}(hR:Rel M T T'){cons:List Nat}(hc:Qkr M cons=true):Rel M (unflag T cons) (unflag T' (cons.map (QbP M))):=by
 intro e he
 have hr:=hR e he
 simp only[Qkr,List.all_eq_true]at hc
 have h1:=hc e he
 rw[Qf7,Qf7]
 by_cases hx:e.ex=true
 ·rw[if_pos hx]at hr
  simp only[hx,Bool.not_true,Bool.false_or,beq_iff_eq]at h1
  have h2:(e.n∈cons)=(e.p∈cons.map (QbP M)):=by
   rw[←List.contains_iff_mem,←List.contains_iff_mem,h1]
  rw[if_pos hx]
  simp only[h2,hr]
 ·rw[if_neg hx]at hr
  rw[if_neg hx]
  split<;>split<;>simp only[Qfv,hr]
  ·rw[←hr,Qfv]
  ·rw[←hr,Qfv]
theorem Qdw(T:List AV)(i j:Nat)(v:AV):(T.set i v).getD j .undef=if i=j∧i<T.length then v else T.getD j .undef:=by
 simp only[List.getD]
 by_cases h:i=j
 ·subst h
  by_cases hl:i<T.length
  ·simp[hl]
  ·simp[hl]
 ·rw[List.getElem?_set_ne h];simp[h]
def setM(M:RM)(d p:Nat):RM:=⟨d,p,true⟩::M.filter fun e=>e.n !=d&&e.p !=p
theorem rel_set{M:RM}{T T':List AV}(hR:Rel M T T'){d p:Nat}(hd:d<T.length)(hp:p<T'.length)(v:AV):Rel (setM M d p) (T.set d v) (T'.set p v):=by
 intro e he
 simp only[setM,List.mem_cons,List.mem_filter,Bool.and_eq_true,bne_iff_ne]at he
 rcases he with rfl|⟨he,h1,h2⟩
 ·simp[Qdw,hd,hp]
 ·rw[Qdw,Qdw,if_neg (show ¬(p=e.p∧p<T'.length)from fun q=>h2 q.1.symm),if_neg (show ¬(d=e.n∧d<T.length)from fun q=>h1 q.1.symm)]
  exact hR e he
theorem Qft{M:RM}{T T':List AV}(hR:Rel M T T'){t:Nat}{b:Bool}{e:ME}(he:QlK M t=some e):wanted T' (some (QbP M t,b))=wanted T (some (t,b)):=by
 obtain⟨h1,h2,h3⟩:=Qd4 he
 have hr:=hR e h1
 simp only[wanted,h3]
 split at hr
 ·rw[hr,h2]
 ·rw[←h2,←hr]
  cases T'.getD e.p .undef<;>rfl
def freeP(used:List Nat):Nat→Nat→Nat
 |0,p=>p
 |k+1,p=>if used.contains p then freeP used k (p+1)else p
def pickP(K:Nat)(home:RM)(M:RM)(os:List COper)(d:Nat):Nat:=
 match QlK home d with
 |some e=>e.p
 |none=>freeP ((M.filter fun e=>os.any fun o=>o.reads.contains e.n).map (·.p)) (M.length+1) K
def Qi1(nt:Nat)(home M:RM)(o:COper)(os:List COper):Option RM:=
 match o with
 |⟨some d,.move (.t s),none,[]⟩=>match QlK M s with
  |some e=>if d<nt&&(QlK home d).isNone&&os.all (fun x=>x.dst !=some s)then some (⟨d,e.p,false⟩::M.filter fun e=>e.n !=d)else none
  |none=>none
 |_=>none
def QcA(M:RM)(o:COper):Bool:=
 o.op.opds.all (okO M o.cons)&&Qkr M o.cons&&match o.guard with
  |none=>true
  |some (t,_)=>(QlK M t).isSome
def QbV(M:RM)(o:COper)(dst:Option Nat):COper:=
 ⟨dst,o.op.mapO (rnO M),o.guard.map fun g=>(QbP M g.1,g.2),o.cons.map (QbP M)⟩
def Qa1(al:Bool)(K nt nt':Nat)(home:RM):RM→List COper→Option (List COper×RM)
 |M,[]=>some ([],M)
 |M,o::os=>match(if al then Qi1 nt home M o os else none)with
  |some M'=>Qa1 al K nt nt' home M' os
  |none=>if QcA M o then match o.dst with
    |none=>match Qa1 al K nt nt' home M os with
     |some (os',M')=>some (QbV M o none::os',M')
     |none=>none
    |some d=>if d<nt∧pickP K home M os d<nt' then match Qa1 al K nt nt' home (setM M d (pickP K home M os d)) os with
      |some (os',M')=>some (QbV M o (some (pickP K home M os d))::os',M')
      |none=>none
     else none
   else none
section
variable {E' E:Qa0} {lim:Nat} {K nt nt':Nat} {home:RM}
theorem Qh8{M M':RM}{o:COper}{os:List COper}{st:St}{T':List AV}(h:Qi1 nt home M o os=some M')(hR:Rel M st.T T')(hl:st.T.length=nt):
  ∃T,stepOp E lim o st=some ⟨T,st.H⟩∧Rel M' T T'∧T.length=nt:=by
 unfold Qi1 at h
 split at h
 ·rename_i d s
  split at h
  ·rename_i e he
   split at h
   ·rename_i hc
    simp only[Option.some.injEq]at h;subst h
    simp only[Bool.and_eq_true,decide_eq_true_eq]at hc
    obtain⟨h1,h2,h3⟩:=Qd4 he
    have hr:=hR e h1
    refine⟨st.T.set d (st.T.getD s .undef).unf,rfl,fun e' he'=> ?_,by simp[hl]⟩
    simp only[List.mem_cons,List.mem_filter,bne_iff_ne]at he'
    rcases he' with rfl|⟨he',hne⟩
    ·simp only[Bool.false_eq_true,if_false,Qdw,true_and]
     rw[if_pos (by omega)]
     split at hr
     ·rw[hr,h2]
     ·rw[←h2,←hr,Qfv]
    ·rw[Qdw,if_neg (show ¬(d=e'.n∧d<st.T.length)from fun q=>hne q.1.symm)]
     exact hR e' he'
   ·simp at h
  ·simp at h
 ·simp at h
theorem len_put(T:List AV)(d:Option Nat)(v:AV):(put T d v).length=T.length:=by cases d<;>simp[put]
theorem Qa5(c:Prop) [Decidable c](T:List AV)(l:List Nat)(d:Option Nat)(v:AV):(put (if c then unflag T l else T) d v).length=T.length:=by
 rw[len_put]
 split
 ·exact Qbv _ _
 ·rfl
theorem QfB(hE:Le E' E){M:RM}{o:COper}{st:St}{T':List AV}{p:Option Nat}{s':St}(hok:QcA M o=true)(hR:Rel M st.T T')(h:stepOp E' lim (QbV M o p) ⟨T',st.H⟩=some s'):
  ∃v,s'.T=put (if(wanted st.T o.guard)=some true then unflag T' (o.cons.map (QbP M))else T') p v∧stepOp E lim o st=some ⟨put (if(wanted st.T o.guard)=some true then unflag st.T o.cons else st.T) o.dst v,s'.H⟩:=by
 simp only[QcA,Bool.and_eq_true,List.all_eq_true]at hok
 obtain⟨⟨h1,h2⟩,h3⟩:=hok
 have hw:wanted T' (o.guard.map fun g=>(QbP M g.1,g.2))=wanted st.T o.guard:=by
  cases hg:o.guard with
  |none=>rfl
  |some g=>
   obtain⟨t,b⟩:=g
   rw[hg]at h3
   simp only[Option.isSome_iff_exists]at h3
   obtain⟨e,he⟩:=h3
   exact Qft hR he
 simp only[stepOp,QbV,hw]at h
 simp only[stepOp]
 split at h
 ·rename_i hwt
  rw[Qnz]at h
  split at h
  ·rename_i v H he
   simp only[Option.some.injEq]at h;subst h
   have he':aop E lim st.H (evx st.T o.cons) o.op=some (v,H):=by
    rw[←Qdn (fun x hx=>Qg6 hR (h1 x hx))]
    exact aop_le hE he
   refine⟨v, ?_, ?_⟩
   ·simp only[hwt,if_true]
   ·simp only[hwt,he',if_true]
  ·simp at h
 ·rename_i hwt
  simp only[Option.some.injEq]at h;subst h
  refine⟨.tuple [], ?_, ?_⟩
  ·simp only[hwt];rfl
  ·simp only[hwt];rfl
 ·simp at h
theorem Qc5{M:RM}{o:COper}{st:St}{T':List AV}(hok:QcA M o=true)(hR:Rel M st.T T')(hl:st.T.length=nt)(hl':T'.length=nt'){v:AV}(d:Option Nat){q:Option Nat}(hd:o.dst=d)(M':RM)
  (hM:(d=none∧q=none∧M'=M)∨∃x p,d=some x∧q=some p∧x<nt∧p<nt'∧M'=setM M x p):
  Rel M' (put (if(wanted st.T o.guard)=some true then unflag st.T o.cons else st.T) o.dst v) (put (if(wanted st.T o.guard)=some true then unflag T' (o.cons.map (QbP M))else T') q v):=by
 have hc:Qkr M o.cons=true:=by
  simp only[QcA,Bool.and_eq_true]at hok;exact hok.1.2
 have hR2:Rel M (if(wanted st.T o.guard)=some true then unflag st.T o.cons else st.T) (if(wanted st.T o.guard)=some true then unflag T' (o.cons.map (QbP M))else T'):=by
  split
  ·exact Qk8 hR hc
  ·exact hR
 have e1:(if(wanted st.T o.guard)=some true then unflag st.T o.cons else st.T).length=nt:=by split<;>simp[Qbv,hl]
 have e2:(if(wanted st.T o.guard)=some true then unflag T' (o.cons.map (QbP M))else T').length=nt':=by split<;>simp[Qbv,hl']
 rw[hd]
 rcases hM with⟨rfl,rfl,rfl⟩|⟨x,p,rfl,rfl,hx,hp,rfl⟩
 ·exact hR2
 ·exact rel_set hR2 (by omega) (by omega) v
theorem Qfk(hE:Le E' E)(al:Bool):∀(os:List COper) (M M':RM) (os':List COper) {st:St} {T':List AV} {s':St},Qa1 al K nt nt' home M os=some (os',M')→Rel M st.T T'→st.T.length=nt→T'.length=nt'→
  runOps E' lim os' ⟨T',st.H⟩=some s'→∃T,runOps E lim os st=some ⟨T,s'.H⟩∧Rel M' T s'.T∧T.length=nt∧s'.T.length=nt'
 | [],M,M',os',st,T',s',h,hR,hl,hl',hr=>by
   simp only[Qa1,Option.some.injEq,Prod.mk.injEq]at h
   obtain⟨rfl,rfl⟩:=h
   simp only[runOps,Option.some.injEq]at hr;subst hr
   exact⟨st.T,rfl,hR,hl,hl'⟩
 |o::os,M,M',os',st,T',s',h,hR,hl,hl',hr=>by
  simp only[Qa1]at h
  split at h
  ·rename_i M1 ha
   have ha:Qi1 nt home M o os=some M1:=by
    cases al with
    |true=>simpa using ha
    |false=>simp at ha
   obtain⟨T1,h1,h2,h3⟩:=Qh8 (E:=E) (lim:=lim) ha hR hl
   obtain⟨T2,h4,h5⟩:=Qfk hE al os M1 M' os' (st:=⟨T1,st.H⟩) h h2 h3 hl' hr
   exact⟨T2,by simp only[runOps,h1];exact h4,h5⟩
  ·split at h
   ·rename_i hok
    split at h
    ·rename_i hdst
     split at h
     ·rename_i os1 M1 hs
      simp only[Option.some.injEq,Prod.mk.injEq]at h
      obtain⟨rfl,rfl⟩:=h
      simp only[runOps]at hr
      split at hr
      ·rename_i s1 h1
       obtain⟨v,e1,e2⟩:=QfB hE hok hR h1
       have hR2:=Qc5 (nt:=nt) (nt':=nt') hok hR hl hl' (v:=v) none hdst M (.inl ⟨rfl,rfl,rfl⟩)
       rw[←e1]at hR2
       obtain⟨T2,h4,h5⟩:=Qfk hE al os M M1 os1 (st:=⟨_,s1.H⟩) hs hR2 (Eq.trans (Qa5 _ _ _ _ _) hl) (by rw[e1,Qa5];exact hl') hr
       exact⟨T2,by simp only[runOps,e2];exact h4,h5⟩
      ·simp at hr
     ·simp at h
    ·rename_i d hdst
     split at h
     ·rename_i hlt
      split at h
      ·rename_i os1 M1 hs
       simp only[Option.some.injEq,Prod.mk.injEq]at h
       obtain⟨rfl,rfl⟩:=h
       simp only[runOps]at hr
       split at hr
       ·rename_i s1 h1
        obtain⟨v,e1,e2⟩:=QfB hE hok hR h1
        have hR2:=Qc5 (nt:=nt) (nt':=nt') hok hR hl hl' (v:=v) (some d) hdst _ (.inr ⟨d,_,rfl,rfl,hlt.1,hlt.2,rfl⟩)
        rw[←e1]at hR2
        obtain⟨T2,h4,h5⟩:=Qfk hE al os _ M1 os1 (st:=⟨_,s1.H⟩) hs hR2 (Eq.trans (Qa5 _ _ _ _ _) hl) (by rw[e1,Qa5];exact hl') hr
        exact⟨T2,by simp only[runOps,e2];exact h4,h5⟩
       ·simp at hr
      ·simp at h
     ·simp at h
   ·simp at h
end
end Go.Abs
namespace Go.Abs
variable [Tab]
section
variable {E' E:Qa0} {lim:Nat} {K nt nt':Nat} {home:RM}
structure RecLe (E' E:Qa0) (lim:Nat) (r' r:Rec):Prop where
 v:r'.v=r.v
 inert:inertRec r'=inertRec r
 aop:∀H x,aop E' lim H (evx r'.T r'.o.cons) r'.o.op=some x→aop E lim H (evx r.T r.o.cons) r.o.op=some x
theorem QkA{M:RM}{o:COper}{T T':List AV}{p:Option Nat}{v:Option AV}(hok:QcA M o=true)(hR:Rel M T T'):inertRec ⟨QbV M o p,T',v⟩=inertRec ⟨o,T,v⟩:=by
 simp only[QcA,Bool.and_eq_true,List.all_eq_true]at hok
 have h1:=hok.1.1
 cases v with
 |none=>rfl
 |some v=>
  simp only[inertRec,QbV]
  cases ho:o.op with
  |append s b str x y=>
   simp only[COp.mapO]
   rw[Qg6 hR (h1 y (by rw[ho];simp[COp.opds]))]
  |_=>rfl
theorem Qkg(hE:Le E' E){M:RM}{o:COper}{st:St}{T':List AV}{p:Option Nat}{r':Rec}{s':St}(hok:QcA M o=true)(hR:Rel M st.T T')(h:stepRec E' lim (QbV M o p) ⟨T',st.H⟩=some (r',s')):
  ∃v r,s'.T=put (if(wanted st.T o.guard)=some true then unflag T' (o.cons.map (QbP M))else T') p v∧stepRec E lim o st=some (r,⟨put (if(wanted st.T o.guard)=some true then unflag st.T o.cons else st.T) o.dst v,s'.H⟩)∧RecLe E' E lim r' r:=by
 have hok':=hok
 simp only[QcA,Bool.and_eq_true,List.all_eq_true]at hok
 obtain⟨⟨h1,h2⟩,h3⟩:=hok
 have hw:wanted T' (o.guard.map fun g=>(QbP M g.1,g.2))=wanted st.T o.guard:=by
  cases hg:o.guard with
  |none=>rfl
  |some g=>
   obtain⟨t,b⟩:=g
   rw[hg]at h3
   simp only[Option.isSome_iff_exists]at h3
   obtain⟨e,he⟩:=h3
   exact Qft hR he
 have hag:∀H x,aop E' lim H (evx T' (QbV M o p).cons) (QbV M o p).op=some x→aop E lim H (evx st.T o.cons) o.op=some x:=fun H x hx=>by
  simp only[QbV]at hx
  rw[Qnz]at hx
  rw[←Qdn (fun x hx=>Qg6 hR (h1 x hx))]
  exact aop_le hE hx
 simp only[stepRec]at h
 rw[show(QbV M o p).guard=o.guard.map fun g=>(QbP M g.1,g.2)from rfl,hw]at h
 simp only[stepRec]
 split at h
 ·rename_i hwt
  split at h
  ·rename_i v H he
   simp only[Option.some.injEq,Prod.mk.injEq]at h
   obtain⟨rfl,rfl⟩:=h
   have he':=hag _ _ he
   refine⟨v,⟨o,st.T,some v⟩, ?_, ?_,⟨rfl,QkA hok' hR,hag⟩⟩
   ·simp only[hwt,if_true];rfl
   ·simp only[hwt,he',if_true]
  ·simp at h
 ·rename_i hwt
  simp only[Option.some.injEq,Prod.mk.injEq]at h
  obtain⟨rfl,rfl⟩:=h
  refine⟨.tuple [],⟨o,st.T,none⟩, ?_, ?_,⟨rfl,QkA hok' hR,hag⟩⟩
  ·simp only[hwt];rfl
  ·simp only[hwt];rfl
 ·simp at h
theorem QgE(hE:Le E' E):∀(os:List COper) (M M':RM) (os':List COper) {st:St} {T':List AV} {rs':List Rec} {s':St},Qa1 false K nt nt' home M os=some (os',M')→Rel M st.T T'→st.T.length=nt→T'.length=nt'→
  traceOps E' lim os' ⟨T',st.H⟩=some (rs',s')→∃rs T,traceOps E lim os st=some (rs,⟨T,s'.H⟩)∧Rel M' T s'.T∧T.length=nt∧s'.T.length=nt'∧rs.length=rs'.length∧∀(i:Nat) r',rs'[i]? =some r'→∃r,rs[i]? =some r∧RecLe E' E lim r' r
 | [],M,M',os',st,T',rs',s',h,hR,hl,hl',hr=>by
   simp only[Qa1,Option.some.injEq,Prod.mk.injEq]at h
   obtain⟨rfl,rfl⟩:=h
   simp only[traceOps,Option.some.injEq,Prod.mk.injEq]at hr
   obtain⟨rfl,rfl⟩:=hr
   exact⟨[],st.T,rfl,hR,hl,hl',rfl,fun i r' h=>by simp at h⟩
 |o::os,M,M',os',st,T',rs',s',h,hR,hl,hl',hr=>by
  simp only[Qa1,Bool.false_eq_true,if_false]at h
  have cons:∀ {M1:RM} {p:Option Nat} {os1:List COper} {M2:RM},QcA M o=true→Qa1 false K nt nt' home M1 os=some (os1,M2)→(∀v,Rel M1 (put (if(wanted st.T o.guard)=some true then unflag st.T o.cons else st.T) o.dst v) (put (if(wanted st.T o.guard)=some true then unflag T' (o.cons.map (QbP M))else T') p v))→
    traceOps E' lim (QbV M o p::os1) ⟨T',st.H⟩=some (rs',s')→∃rs T,traceOps E lim (o::os) st=some (rs,⟨T,s'.H⟩)∧Rel M2 T s'.T∧T.length=nt∧s'.T.length=nt'∧rs.length=rs'.length∧∀(i:Nat) r',rs'[i]? =some r'→∃r,rs[i]? =some r∧RecLe E' E lim r' r:=by
   intro M1 p os1 M2 hok hs hput hr
   simp only[traceOps]at hr
   split at hr
   ·rename_i r1 s1 h1
    split at hr
    ·rename_i rs1 s2 h2
     simp only[Option.some.injEq,Prod.mk.injEq]at hr
     obtain⟨rfl,rfl⟩:=hr
     obtain⟨v,r,e1,e2,e3⟩:=Qkg hE hok hR h1
     have hR2:=hput v
     rw[←e1]at hR2
     obtain⟨rs,T,h4,h5,h6,h7,h8,h9⟩:=QgE hE os M1 M2 os1 (st:=⟨put (if(wanted st.T o.guard)=some true then unflag st.T o.cons else st.T) o.dst v,s1.H⟩) hs hR2 (Eq.trans (Qa5 _ _ _ _ _) hl) (by rw[e1,Qa5];exact hl') h2
     refine⟨r::rs,T, ?_,h5,h6,h7,by simp[h8],fun i r' hi=> ?_⟩
     ·simp only[traceOps,e2]
      rw[h4]
     ·cases i with
      |zero=>simp at hi;subst hi;exact⟨r,rfl,e3⟩
      |succ i=>simpa using h9 i r' (by simpa using hi)
    ·simp at hr
   ·simp at hr
  split at h
  ·rename_i hok
   split at h
   ·rename_i hdst
    split at h
    ·rename_i os1 M1 hs
     simp only[Option.some.injEq,Prod.mk.injEq]at h
     obtain⟨rfl,rfl⟩:=h
     exact cons hok hs (fun v=>Qc5 (nt:=nt) (nt':=nt') hok hR hl hl' (v:=v) none hdst M (.inl ⟨rfl,rfl,rfl⟩)) hr
    ·simp at h
   ·rename_i d hdst
    split at h
    ·rename_i hlt
     split at h
     ·rename_i os1 M1 hs
      simp only[Option.some.injEq,Prod.mk.injEq]at h
      obtain⟨rfl,rfl⟩:=h
      exact cons hok hs (fun v=>Qc5 (nt:=nt) (nt':=nt') hok hR hl hl' (v:=v) (some d) hdst _ (.inr ⟨d,_,rfl,rfl,hlt.1,hlt.2,rfl⟩)) hr
     ·simp at h
    ·simp at h
  ·simp at h
theorem Qkc{rs' rs:List Rec}(h:∀(i:Nat) r',rs'[i]? =some r'→∃r,rs[i]? =some r∧RecLe E' E lim r' r){i:Nat}{H H':Qab}(hr:runAt E' lim rs' i H=some H'):runAt E lim rs i H=some H':=by
 unfold runAt at hr
 split at hr
 ·rename_i o T v he
  obtain⟨r,h1,h2⟩:=h i _ he
  split at hr
  ·rename_i v' H1 ha
   have h3:=h2.aop _ _ ha
   have h4:=h2.v
   simp only at h4
   obtain⟨o2,T2,v2⟩:=r
   simp only at h4;subst h4
   simp only[runAt,h1]
   simp only at h3
   rw[h3];exact hr
  ·simp at hr
 ·rename_i o T he
  obtain⟨r,h1,h2⟩:=h i _ he
  have h4:=h2.v
  simp only at h4
  obtain⟨o2,T2,v2⟩:=r
  simp only at h4;subst h4
  simp only[runAt,h1];exact hr
 ·simp at hr
theorem Qlz{rs' rs:List Rec}(h:∀i H H',runAt E' lim rs' i H=some H'→runAt E lim rs i H=some H'){c:Chk}{Hf:Qab}:∀(k:Nat) (S:List Nat) (hp:Qab),explore E' lim rs' c Hf k S hp=true→explore E lim rs c Hf k S hp=true:=by
 intro k
 induction k with
 |zero=>intro S hp hx;simp[explore]at hx
 |succ k ih=>
  intro S hp hx
  simp only[explore,Bool.and_eq_true,List.all_eq_true,Bool.or_eq_true]at hx⊢
  refine⟨fun r hr=>(hx.1 r hr).imp (fun q=>q) fun q=> ?_, ?_⟩
  ·rw[Option.isSome_iff_exists]at q⊢
   obtain⟨y,hy⟩:=q
   exact⟨y,h _ _ _ hy⟩
  ·have hx2:=hx.2
   split at hx2
   ·rename_i hc;rw[if_pos hc];exact hx2
   ·rename_i hc
    rw[if_neg hc]
    rw[List.all_eq_true]at hx2⊢
    intro e he
    have:=hx2 e he
    simp only[Bool.or_eq_true]at this⊢
    refine this.imp (fun q=>q) fun q=> ?_
    split at q
    ·rename_i h' hr
     rw[h _ _ _ hr]
     exact ih _ _ q
    ·cases q
theorem QkP{rs' rs:List Rec}(h:∀i H H',runAt E' lim rs' i H=some H'→runAt E lim rs i H=some H'):∀(p:List (List Nat×Option Nat)) (hp:Qab),chainOK E' lim rs' p hp=true→chainOK E lim rs p hp=true
 | [],hp,_=>rfl
 |(l,oe)::p,hp,hx=>by
  simp only[chainOK,Bool.and_eq_true,List.all_eq_true]at hx⊢
  refine⟨fun r hr=> ?_, ?_⟩
  ·have:=hx.1 r hr
   rw[Option.isSome_iff_exists]at this⊢
   obtain⟨y,hy⟩:=this
   exact⟨y,h _ _ _ hy⟩
  ·have h2:=hx.2
   cases oe with
   |none=>rfl
   |some e=>
    simp only at h2⊢
    split at h2
    ·rename_i h' hr
     rw[h _ _ _ hr]
     exact QkP h p h' h2
    ·cases h2
theorem Qnh{rs' rs:List Rec}(h:∀i H H',runAt E' lim rs' i H=some H'→runAt E lim rs i H=some H'){c:Chk}(hth:thin rs c=thin rs' c){hp Hf:Qab}(hx:drawOK E' lim rs' c hp Hf=true):drawOK E lim rs c hp Hf=true:=by
 unfold drawOK at hx⊢
 cases hp':c.plan with
 |some p=>rw[hp']at hx;exact QkP h p hp hx
 |none=>
  rw[hp']at hx
  simp only at hx⊢
  rw[hth]
  exact Qlz h _ _ _ hx
def QkE(K:Nat)(os:List COper):List Nat:=((os.filterMap (·.dst)).filter fun p=>K≤p).eraseDups
def QbK(K nt nt':Nat)(home:RM):CCode→Option CCode
 |.skip=>some .skip
 |.region ops chk fg=>match Qa1 chk.isNone K nt nt' home home ops with
  |some (ops',M)=>if home.all (fun e=>M.contains e&&decide (e.p<K)&& !fg.contains e.n)then some (.region ops' chk (QkE K ops'))else none
  |none=>none
 |.seq a b=>match QbK K nt nt' home a,QbK K nt nt' home b with
  |some a',some b'=>some (.seq a' b')
  |_,_=>none
 |.cond c a b=>if okO home [] c then match QbK K nt nt' home a,QbK K nt nt' home b with
  |some a',some b'=>some (.cond (rnO home c) a' b')
  |_,_=>none
  else none
 |.block id a=>(QbK K nt nt' home a).map (.block id)
 |.loop a=>(QbK K nt nt' home a).map .loop
 |.exit id=>some (.exit id)
 |.ret=>some .ret
structure SR (K nt nt':Nat) (home:RM) (st s':St):Prop where
 rel:Rel home st.T s'.T
 len:st.T.length=nt
 len':s'.T.length=nt'
 mem:st.H=s'.H
theorem QdK:∀(ns:List Nat) (T:List AV) (i:Nat),i∉ns→(forgetT T ns).getD i .undef=T.getD i .undef
 | [],T,i,_=>rfl
 |n::ns,T,i,h=>by
  simp only[List.mem_cons,not_or]at h
  simp only[forgetT]
  rw[QdK ns _ i h.2,Qdw,if_neg (fun q=>h.1 q.1.symm)]
theorem Qjl(hE:Le E' E){ops:List COper}{chk:Option Chk}{fg:List Nat}{c':CCode}(hc:QbK K nt nt' home (.region ops chk fg)=some c'){st s':St}(hs:SR K nt nt' home st s'){L':(St→Option (St ⊕(AExit×St)))→St→Option (AExit×St)}{x:AExit}{s2:St}
  (h:evalC E' lim L' c' s'=some (x,s2)):x= .normal∧∃st2,evalR E lim ops chk fg st=some st2∧SR K nt nt' home st2 s2:=by
 simp only[QbK]at hc
 split at hc
 ·rename_i ops' M hso
  split at hc
  ·rename_i hall
   simp only[Option.some.injEq]at hc;subst hc
   simp only[List.all_eq_true,Bool.and_eq_true,decide_eq_true_eq,Bool.not_eq_true',List.contains_iff_mem]at hall
   simp only[evalC]at h
   split at h
   ·rename_i s3 hr
    simp only[Option.some.injEq,Prod.mk.injEq]at h
    obtain⟨rfl,rfl⟩:=h
    refine⟨rfl, ?_⟩
    obtain⟨T',H⟩:=s'
    have hm:=hs.mem
    simp only at hm;subst hm
    have fin:∀ {T:List AV} {s4:St},Rel M T s4.T→T.length=nt→s4.T.length=nt'→SR K nt nt' home ⟨forgetT T fg,s4.H⟩ ⟨forgetT s4.T (QkE K ops'),s4.H⟩:=fun{T s4} h1 h2 h3=> {
     rel:=fun e he=>by
      obtain⟨⟨hh1,hh2⟩,hh3⟩:=hall e he
      have:=h1 e hh1
      have hn1:e.p∉QkE K ops':=fun q=>by
       simp only[QkE,List.mem_eraseDups,List.mem_filter,decide_eq_true_eq]at q
       omega
      have hn2:e.n∉fg:=fun q=>by
       have:fg.contains e.n=true:=by simpa using q
       rw[this]at hh3;cases hh3
      rw[QdK _ _ _ hn1,QdK _ _ _ hn2]
      exact this
     len:=by simp only[QeG];exact h2
     len':=by simp only[QeG];exact h3
     mem:=rfl }
    cases chk with
    |none=>
     simp only[evalR]at hr
     split at hr
     ·rename_i s4 hr4
      simp only[Option.some.injEq]at hr;subst hr
      obtain⟨T,h1,h2,h3,h4⟩:=Qfk hE _ ops home M ops' hso hs.rel hs.len hs.len' hr4
      refine⟨_, ?_,fin h2 h3 h4⟩
      simp only[evalR,h1]
     ·simp at hr
    |some c=>
     simp only[evalR]at hr
     split at hr
     ·rename_i rs' s4 hr4
      split at hr
      ·rename_i hx
       simp only[Option.some.injEq]at hr;subst hr
       obtain⟨rs,T,h1,h2,h3,h4,h5,h6⟩:=QgE hE ops home M ops' hso hs.rel hs.len hs.len' hr4
       refine⟨_, ?_,fin h2 h3 h4⟩
       have hin:∀i,inertAt rs i=inertAt rs' i:=fun i=>by
        unfold inertAt
        cases hi:rs'[i]? with
        |none=>
         have:rs[i]? =none:=by rw[List.getElem?_eq_none_iff]at hi⊢;omega
         rw[this]
        |some r'=>
         obtain⟨r,q1,q2⟩:=h6 i r' hi
         rw[q1]
         exact q2.inert.symm
       have hth:thin rs c=thin rs' c:=by simp only[thin,hin]
       simp only[evalR,h1]
       rw[if_pos (Qnh (fun i H H' hr=>Qkc h6 hr) hth hx)]
      ·simp at hr
     ·simp at hr
   ·simp at h
  ·simp at hc
 ·simp at hc
theorem Qnd{st s':St}(hs:SR K nt nt' home st s'){c:Opd}(hc:okO home [] c=true):evx s'.T [] (rnO home c)=evx st.T [] c:=Qg6 (cons:= []) hs.rel hc
theorem QeA:∀(xs ys:List AV) (i:Nat),xs.length=ys.length→(QdJ xs ys).getD i .undef=if AV.beq (xs.getD i .undef) (ys.getD i .undef)=true then xs.getD i .undef else .undef
 | [],[],i,_=>by simp[QdJ]
 |x::xs,y::ys,0,_=>by simp[QdJ]
 |x::xs,y::ys,i+1,hl=>by simpa[QdJ]using QeA xs ys i (by simpa using hl)
 | [],_::_,_,hl=>by simp at hl
 |_::_,[],_,hl=>by simp at hl
theorem AV.beq_iff(x y:AV):AV.beq x y=true↔x=y:=⟨AV.beq_eq,fun h=>by subst h;exact AV.beq_self x⟩
theorem sr_join(hex:∀e∈home,e.ex=true){a b a' b':St}(h1:SR K nt nt' home a a')(h2:SR K nt nt' home b b')(hH:a'.H=b'.H):SR K nt nt' home ⟨QdJ a.T b.T,a.H⟩ ⟨QdJ a'.T b'.T,a'.H⟩ where
 rel e he:=by
  have q1:=h1.rel e he
  have q2:=h2.rel e he
  rw[if_pos (hex e he)]at q1 q2⊢
  simp only
  rw[QeA _ _ _ (by rw[h1.len',h2.len']),QeA _ _ _ (by rw[h1.len,h2.len]),q1,q2]
 len:=by rw[Qcc _ _ (by rw[h1.len,h2.len])];exact h1.len
 len':=by rw[Qcc _ _ (by rw[h1.len',h2.len'])];exact h1.len'
 mem:=h1.mem
theorem QaZ(hE:Le E' E)(hex:∀e∈home,e.ex=true){k:Nat}:∀(c c':CCode) {st s':St} {x:AExit} {s2:St},QbK K nt nt' home c=some c'→SR K nt nt' home st s'→evalC E' lim (fun b s=>Qas b k s) c' s'=some (x,s2)→
  ∃st2,evalC E lim (fun b s=>Qas b k s) c st=some (x,st2)∧SR K nt nt' home st2 s2
 |.skip,c',st,s',x,s2,hc,hs,h=>by
  simp only[QbK,Option.some.injEq]at hc;subst hc
  simp only[evalC,Option.some.injEq,Prod.mk.injEq]at h
  obtain⟨rfl,rfl⟩:=h
  exact⟨st,rfl,hs⟩
 |.exit id,c',st,s',x,s2,hc,hs,h=>by
  simp only[QbK,Option.some.injEq]at hc;subst hc
  simp only[evalC,Option.some.injEq,Prod.mk.injEq]at h
  obtain⟨rfl,rfl⟩:=h
  exact⟨st,rfl,hs⟩
 |.ret,c',st,s',x,s2,hc,hs,h=>by
  simp only[QbK,Option.some.injEq]at hc;subst hc
  simp only[evalC,Option.some.injEq,Prod.mk.injEq]at h
  obtain⟨rfl,rfl⟩:=h
  exact⟨st,rfl,hs⟩
 |.region ops chk fg,c',st,s',x,s2,hc,hs,h=>by
  obtain⟨rfl,st2,h1,h2⟩:=Qjl hE hc hs h
  exact⟨st2,by simp only[evalC,h1],h2⟩
 |.seq a b,c',st,s',x,s2,hc,hs,h=>by
  simp only[QbK]at hc
  split at hc
  ·rename_i a' b' ha hb
   simp only[Option.some.injEq]at hc;subst hc
   simp only[evalC]at h⊢
   split at h
   ·rename_i s3 h3
    obtain⟨st3,q1,q2⟩:=QaZ hE hex a a' ha hs h3
    rw[q1]
    exact QaZ hE hex b b' hb q2 h
   ·rename_i hne
    obtain⟨st3,q1,q2⟩:=QaZ hE hex a a' ha hs h
    rw[q1]
    refine⟨st3, ?_,q2⟩
    split
    ·rename_i heq
     simp only[Option.some.injEq,Prod.mk.injEq]at heq
     obtain⟨rfl,rfl⟩:=heq
     exact absurd h (hne _)
    ·rfl
  ·simp at hc
 |.cond c a b,c',st,s',x,s2,hc,hs,h=>by
  simp only[QbK]at hc
  split at hc
  ·rename_i hok
   split at hc
   ·rename_i a' b' ha hb
    simp only[Option.some.injEq]at hc;subst hc
    simp only[evalC]at h⊢
    rw[Qnd hs hok]at h
    split at h
    ·rename_i t ht
     cases t with
     |true=>
      obtain⟨st3,q1,q2⟩:=QaZ hE hex a a' ha hs (by simpa using h)
      exact⟨st3,by simpa using q1,q2⟩
     |false=>
      obtain⟨st3,q1,q2⟩:=QaZ hE hex b b' hb hs (by simpa using h)
      exact⟨st3,by simpa using q1,q2⟩
    ·rename_i ht
     split at h
     ·rename_i r1 r2 h1 h2
      obtain⟨x1,s3⟩:=r1
      obtain⟨x2,s4⟩:=r2
      simp only[QiD]at h
      split at h
      ·rename_i hj
       obtain⟨rfl,hlen,hb'⟩:=hj
       simp only[Option.some.injEq,Prod.mk.injEq]at h
       obtain⟨rfl,rfl⟩:=h
       obtain⟨st3,q1,q2⟩:=QaZ hE hex a a' ha hs h1
       obtain⟨st4,q3,q4⟩:=QaZ hE hex b b' hb hs h2
       have hH:=Qb4 hb'
       refine⟨_, ?_,sr_join hex q2 q4 hH⟩
       simp only[q1,q3,QiD]
       rw[if_pos ⟨trivial,by rw[q2.len,q4.len],by rw[q2.mem,q4.mem];exact hb'⟩]
      ·simp at h
     ·simp at h
    ·simp at h
   ·simp at hc
  ·simp at hc
 |.block id a,c',st,s',x,s2,hc,hs,h=>by
  simp only[QbK,Option.map_eq_some_iff]at hc
  obtain⟨a',ha,rfl⟩:=hc
  simp only[evalC]at h⊢
  split at h
  ·rename_i i s3 h3
   obtain⟨st3,q1,q2⟩:=QaZ hE hex a a' ha hs h3
   simp only[q1]
   split at h
   ·rename_i hi
    simp only[Option.some.injEq,Prod.mk.injEq]at h
    obtain⟨rfl,rfl⟩:=h
    exact⟨st3,by rw[if_pos hi],q2⟩
   ·rename_i hi
    simp only[Option.some.injEq,Prod.mk.injEq]at h
    obtain⟨rfl,rfl⟩:=h
    exact⟨st3,by rw[if_neg hi],q2⟩
  ·rename_i hne
   obtain⟨st3,q1,q2⟩:=QaZ hE hex a a' ha hs h
   rw[q1]
   refine⟨st3, ?_,q2⟩
   split
   ·rename_i heq
    simp only[Option.some.injEq,Prod.mk.injEq]at heq
    obtain⟨rfl,rfl⟩:=heq
    exact absurd h (hne _ _)
   ·rfl
 |.loop a,c',st,s',x,s2,hc,hs,h=>by
  simp only[QbK,Option.map_eq_some_iff]at hc
  obtain⟨a',ha,rfl⟩:=hc
  simp only[evalC]at h⊢
  have key:∀(m:Nat) {st s':St},SR K nt nt' home st s'→Qas (fun s=>match evalC E' lim (fun b s=>Qas b k s) a' s with
        |some (.normal,s')=>some (.inl s')
        |some r=>some (.inr r)
        |none=>none) m s'=some (x,s2)→∃st2,Qas (fun s=>match evalC E lim (fun b s=>Qas b k s) a s with
        |some (.normal,s')=>some (.inl s')
        |some r=>some (.inr r)
        |none=>none) m st=some (x,st2)∧SR K nt nt' home st2 s2:=by
   intro m
   induction m with
   |zero=>intro st s' _ h;simp[Qas]at h
   |succ m ih=>
    intro st s' hs h
    simp only[Qas]at h⊢
    cases he:evalC E' lim (fun b s=>Qas b k s) a' s' with
    |none=>rw[he]at h;simp at h
    |some r=>
     obtain⟨e,s3⟩:=r
     obtain⟨st3,q1,q2⟩:=QaZ hE hex a a' ha hs he
     rw[he]at h
     rw[q1]
     cases e with
     |normal=>exact ih q2 h
     |exit i=>
      simp only[Option.some.injEq,Prod.mk.injEq]at h⊢
      obtain⟨rfl,rfl⟩:=h
      exact⟨st3,⟨rfl,rfl⟩,q2⟩
     |ret=>
      simp only[Option.some.injEq,Prod.mk.injEq]at h⊢
      obtain⟨rfl,rfl⟩:=h
      exact⟨st3,⟨rfl,rfl⟩,q2⟩
  exact key k hs h
def rnRes(home:RM):CRes→CRes
 |.t n=> .t (QbP home n)
 |.cell n a s=> .cell (QbP home n) a s
def CRes.slot:CRes→Nat
 |.t n=>n
 |.cell n _ _=>n
theorem Qkf(hex:∀e∈home,e.ex=true){st s':St}(hs:SR K nt nt' home st s'):∀(rs:List CRes),(rs.all fun r=>(QlK home r.slot).isSome)=true→Qbw s'.T s'.H (rs.map (rnRes home))=Qbw st.T st.H rs
 | [],_=>rfl
 |r::rs,h=>by
  simp only[List.all_cons,Bool.and_eq_true]at h
  obtain⟨h1,h2⟩:=h
  rw[Option.isSome_iff_exists]at h1
  obtain⟨e,he⟩:=h1
  obtain⟨m1,m2,m3⟩:=Qd4 he
  have hr:=hs.rel e m1
  rw[if_pos (hex e m1)]at hr
  have ih:=Qkf hex hs rs h2
  cases r with
  |t n=>
   simp only[CRes.slot]at m2 m3
   simp only[List.map_cons,rnRes,Qbw,ih,m3,hr,m2]
  |cell n a s=>
   simp only[CRes.slot]at m2 m3
   simp only[List.map_cons,rnRes,Qbw,ih,m3,hr,m2,hs.mem]
def Qdf(na:Nat)(kp:List Nat):RM:=((List.range na)++kp.filter fun n=>na≤n).zipIdx.map fun q=>⟨q.1,q.2,true⟩
def Qae(kp:List Nat)(nt':Nat)(fn:CFn):Option CFn:=
 let home:=Qdf fn.nargs kp
 if(home.all fun e=>decide (e.n<max fn.nargs fn.ntmps)&&decide (e.p<nt')&&(decide (e.n<fn.nargs)==decide (e.p<fn.nargs))&&(decide (e.n<fn.nargs→e.p=e.n)))&&(fn.res.all fun r=>(QlK home r.slot).isSome)&&decide (fn.nargs≤nt')then
  (QbK home.length (max fn.nargs fn.ntmps) nt' home fn.body).map fun b=>⟨fn.nargs,nt',fn.keep,b,fn.res.map (rnRes home)⟩
 else none
theorem fn_slim(hE:Le E' E){k:Nat}{kp:List Nat}{fn fn':CFn}(hf:Qae kp nt' fn=some fn'){args:List AV}{H:Qab}{r:AV×Qab}(h:Qfb E' (fun b s=>Qas b k s) fn' lim args H=some r):Qfb E (fun b s=>Qas b k s) fn lim args H=some r:=by
 simp only[Qae]at hf
 split at hf
 ·rename_i hck
  simp only[Option.map_eq_some_iff]at hf
  obtain⟨b,hb,rfl⟩:=hf
  simp only[Bool.and_eq_true,List.all_eq_true,decide_eq_true_eq,beq_iff_eq]at hck
  obtain⟨⟨hck1,hck2⟩,hck3⟩:=hck
  have hex:∀e∈Qdf fn.nargs kp,e.ex=true:=fun e he=>by
   simp only[Qdf,List.mem_map]at he
   obtain⟨q,_,rfl⟩:=he
   rfl
  simp only[Qfb]at h⊢
  split at h
  ·rename_i hl
   rw[if_pos hl]
   split at h
   ·simp at h
   ·rename_i x st hne he
    have hs:SR (Qdf fn.nargs kp).length (max fn.nargs fn.ntmps) nt' (Qdf fn.nargs kp) ⟨args++List.replicate (fn.ntmps-args.length) (.tuple []),H⟩ ⟨args++List.replicate (nt'-args.length) (.tuple []),H⟩:= {
     rel:=fun e hm=>by
      obtain⟨⟨⟨q1,q2⟩,q3⟩,q4⟩:=hck1 e hm
      rw[if_pos (hex e hm)]
      simp only[List.getD]
      by_cases hn:e.n<fn.nargs
      ·have:=q4 hn
       rw[this,List.getElem?_append_left (by omega),List.getElem?_append_left (by omega)]
      ·have hp:¬e.p<fn.nargs:=fun q=>by
        have:decide (e.p<fn.nargs)=true:=decide_eq_true q
        rw[this]at q3
        exact hn (of_decide_eq_true q3)
       rw[List.getElem?_append_right (by omega),List.getElem?_append_right (by omega)]
       have e1:(List.replicate (nt'-args.length) (AV.tuple []))[e.p-args.length]? =some (.tuple []):=by
        rw[List.getElem?_replicate,if_pos (by omega)]
       have e2:(List.replicate (fn.ntmps-args.length) (AV.tuple []))[e.n-args.length]? =some (.tuple []):=by
        rw[List.getElem?_replicate,if_pos (by omega)]
       rw[e1,e2]
     len:=by simp only[List.length_append,List.length_replicate];omega
     len':=by simp only[List.length_append,List.length_replicate];omega
     mem:=rfl }
    obtain⟨st2,q1,q2⟩:=QaZ hE hex _ _ hb hs he
    rw[q1]
    have hres:=Qkf hex q2 fn.res (by rw[List.all_eq_true];exact hck2)
    split
    ·rename_i heq
     simp only[Option.some.injEq,Prod.mk.injEq]at heq
     obtain⟨rfl,rfl⟩:=heq
     exact(hne _ rfl).elim
    ·rename_i x2 st3 _ heq
     simp only[Option.some.injEq,Prod.mk.injEq]at heq
     obtain⟨rfl,rfl⟩:=heq
     rw[hres,←q2.mem]at h
     exact h
    ·rename_i heq;simp at heq
   ·simp at h
  ·simp at h
 ·simp at hf
end
theorem Qeb{code code':FuncId→Option CFn}{prim:FuncId→Option Qba}(hc:∀f c',code' f=some c'→∃c kp nt',code f=some c∧Qae kp nt' c=some c'):∀k,Le (QaE code' prim k) (QaE code prim k)
 |0=>fun f lim a H r h=>by simp[QaE]at h
 |k+1=>fun f lim a H r h=>by
  simp only[QaE]at h⊢
  cases hF:prim f with
  |some F=>simp only[hF]at h⊢;exact h
  |none=>
   simp only[hF]at h⊢
   cases hc':code' f with
   |none=>simp only[hc']at h;simp at h
   |some c'=>
    simp only[hc']at h
    obtain⟨c,kp,nt',h1,h2⟩:=hc f c' hc'
    simp only[h1]
    exact cutIf_le (fun lim a H r h=>fn_slim (Qeb hc k) h2 h) h
end Go.Abs
namespace Go.Abs
open Go.RowKit
variable [Tab]
theorem nat0:((0:Nat):Int)=0:=rfl
def AllSlim(P:Program):Nat→List (Option CFn)→Prop
 |_,[]=>True
 |n,none::l=>AllSlim P (n+1) l
 |n,some c::l=>(∃tk keep kp nt',(Qaa P tk keep kp n).bind (Qae kp nt')=some c)∧AllSlim P (n+1) l
theorem AllSlim.get{P:Program}:∀ {l:List (Option CFn)} {n:Nat},AllSlim P n l→∀(i:Nat) c,l[i]? =some (some c)→∃tk keep kp nt',(Qaa P tk keep kp (n+i)).bind (Qae kp nt')=some c
 | [],_,_,i,c,h=>by simp at h
 |none::l,n,hl,i,c,h=>by
  cases i with
  |zero=>simp at h
  |succ i=>have:=AllSlim.get (l:=l) (n:=n+1) hl i c (by simpa using h);rwa [Nat.add_assoc,Nat.add_comm 1 i]at this
 |some d::l,n,hl,i,c,h=>by
  cases i with
  |zero=>simp at h;subst h;exact hl.1
  |succ i=>have:=AllSlim.get (l:=l) (n:=n+1) hl.2 i c (by simpa using h);rwa [Nat.add_assoc,Nat.add_comm 1 i]at this
def QcG(l:List (Option CFn))(f:FuncId):Option CFn:=(l[f]?).join
theorem QjQ{l:List (Option CFn)}{f:FuncId}{c:CFn}(h:QcG l f=some c):l[f]? =some (some c):=by
 unfold QcG at h
 cases e:l[f]? with
 |none=>rw[e]at h;cases h
 |some x=>rw[e]at h;simp at h;rw[h]
end Go.Abs
