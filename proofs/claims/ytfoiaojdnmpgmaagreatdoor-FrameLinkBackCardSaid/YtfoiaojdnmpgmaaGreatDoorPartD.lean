/- Part 4. -/
import Derived.Test.YtfoiaojdnmpgmaaGreatDoorPartC
import Derived.WideShapes
import Derived.ChangeShapes
import Derived.Lib.Bytealg
import Derived.WalkKit
import Derived.Lib.DecodeN
import Derived.Lib.ValidU
set_option linter.all false
namespace Go.Abs
open Go.RowKit
variable [Tab]
def PLe(E' E:QeP):Prop:=∀f lim a H r,E' f lim a H=some r→E f lim a H=some r
def Disj(E:Qa0)(EP:QeP):Prop:=∀f lim a H v,EP f lim a H=some v→E f lim a H=none
section
variable {E' E:Qa0} {EP' EP:QeP} {lim:Nat} {K nt nt':Nat} {home:RM}
theorem QfL(hP:PLe EP' EP){M:RM}{o:COper}{T T':List AV}{p:Option Nat}{h:Qab}{v:PV}(hok:QcA M o=true)(hR:Rel M T T')(hs:panO EP' lim (QbV M o p) ⟨T',h⟩=some v):panO EP lim o ⟨T,h⟩=some v:=by
 simp only[QcA,Bool.and_eq_true,List.all_eq_true]at hok
 obtain⟨⟨h1,h2⟩,h3⟩:=hok
 have hw:wanted T' (o.guard.map fun g=>(QbP M g.1,g.2))=wanted T o.guard:=by
  cases hg:o.guard with
  |none=>rfl
  |some g=>
   obtain⟨t,b⟩:=g
   rw[hg]at h3
   simp only[Option.isSome_iff_exists]at h3
   obtain⟨e,he⟩:=h3
   exact Qft hR he
 unfold panO at hs⊢
 simp only[QbV,hw]at hs
 split at hs
 ·rename_i hwt
  simp only[hwt]
  cases ho:o.op with
  |panic x=>
   rw[ho]at hs h1
   simp only[COp.mapO]at hs
   rw[Qg6 hR (h1 x (by simp[COp.opds]))]at hs
   exact hs
  |call f args=>
   rw[ho]at hs h1
   simp only[COp.mapO,List.map_map]at hs⊢
   split at hs
   ·cases hs
   ·rename_i htf
    rw[if_neg htf]
    have:args.map (evx T' (o.cons.map (QbP M))∘rnO M)=args.map (evx T o.cons):=List.map_congr_left fun x hx=>Qg6 hR (h1 x (by simpa[COp.opds]using hx))
    rw[this]at hs
    exact hP _ _ _ _ _ hs
  |_=>
   rw[ho]at hs
   simp only[COp.mapO]at hs
   cases hs
 ·cases hs
theorem QfM(hD:Disj E EP){o:COper}{s:St}{v:PV}(h:panO EP lim o s=some v):stepOp E lim o s=none∧stepRec E lim o s=none:=by
 unfold panO at h
 unfold stepOp stepRec
 split at h
 ·rename_i hw
  simp only[hw]
  have:aop E lim s.H (evx s.T o.cons) o.op=none:=by
   split at h
   ·rename_i x ho;rw[ho];rfl
   ·rename_i f args ho
    rw[ho]
    split at h
    ·cases h
    ·exact hD _ _ _ _ _ h
   ·cases h
  rw[this]
  exact⟨rfl,rfl⟩
 ·cases h
theorem QdH(hE:Le E' E)(hP:PLe EP' EP)(hD:Disj E EP)(al:Bool):∀(os:List COper) (M M':RM) (os':List COper) {st:St} {T':List AV} {v:PV},Qa1 al K nt nt' home M os=some (os',M')→Rel M st.T T'→st.T.length=nt→T'.length=nt'→
  panOps E' EP' lim os' ⟨T',st.H⟩=some v→panOps E EP lim os st=some v
 | [],M,M',os',st,T',v,h,hR,hl,hl',hr=>by
   simp only[Qa1,Option.some.injEq,Prod.mk.injEq]at h
   obtain⟨rfl,rfl⟩:=h
   cases hr
 |o::os,M,M',os',st,T',v,h,hR,hl,hl',hr=>by
  simp only[Qa1]at h
  split at h
  ·rename_i M1 ha
   have ha:Qi1 nt home M o os=some M1:=by
    cases al with
    |true=>simpa using ha
    |false=>simp at ha
   obtain⟨T1,h1,h2,h3⟩:=Qh8 (E:=E) (lim:=lim) ha hR hl
   have:=QdH hE hP hD al os M1 M' os' (st:=⟨T1,st.H⟩) h h2 h3 hl' hr
   simp only[panOps,h1]
   exact this
  ·split at h
   ·rename_i hok
    have step:∀ {p:Option Nat} {M1:RM} {os1:List COper},Qa1 al K nt nt' home M1 os=some (os1,M')→(∀v,Rel M1 (put (if(wanted st.T o.guard)=some true then unflag st.T o.cons else st.T) o.dst v) (put (if(wanted st.T o.guard)=some true then unflag T' (o.cons.map (QbP M))else T') p v))→
      panOps E' EP' lim (QbV M o p::os1) ⟨T',st.H⟩=some v→panOps E EP lim (o::os) st=some v:=by
     intro p M1 os1 hs hput hr
     simp only[panOps]at hr⊢
     split at hr
     ·rename_i s1 h1
      obtain⟨v1,e1,e2⟩:=QfB hE hok hR h1
      have hR2:=hput v1
      rw[←e1]at hR2
      rw[e2]
      exact QdH hE hP hD al os M1 M' os1 (st:=⟨_,s1.H⟩) hs hR2 (Eq.trans (Qa5 _ _ _ _ _) hl) (by rw[e1,Qa5];exact hl') hr
     ·have hp:=QfL hP hok hR hr
      rw[(QfM hD (s:=st) hp).1]
      exact hp
    split at h
    ·rename_i hdst
     split at h
     ·rename_i os1 M1 hs
      simp only[Option.some.injEq,Prod.mk.injEq]at h
      obtain⟨rfl,rfl⟩:=h
      exact step hs (fun v=>Qc5 (nt:=nt) (nt':=nt') hok hR hl hl' (v:=v) none hdst M (.inl ⟨rfl,rfl,rfl⟩)) hr
     ·simp at h
    ·rename_i d hdst
     split at h
     ·rename_i hlt
      split at h
      ·rename_i os1 M1 hs
       simp only[Option.some.injEq,Prod.mk.injEq]at h
       obtain⟨rfl,rfl⟩:=h
       exact step hs (fun v=>Qc5 (nt:=nt) (nt':=nt') hok hR hl hl' (v:=v) (some d) hdst _ (.inr ⟨d,_,rfl,rfl,hlt.1,hlt.2,rfl⟩)) hr
      ·simp at h
     ·simp at h
   ·simp at h
theorem Qfx(hE:Le E' E)(hP:PLe EP' EP)(hD:Disj E EP):∀(os:List COper) (M M':RM) (os':List COper) {st:St} {T':List AV} {rs':List Rec} {o':COper} {s':St} {v:PV},Qa1 false K nt nt' home M os=some (os',M')→Rel M st.T T'→st.T.length=nt→T'.length=nt'→
  traceP E' lim os' ⟨T',st.H⟩=some (rs',o',s')→panO EP' lim o' s'=some v→∃rs o T,traceP E lim os st=some (rs,o,⟨T,s'.H⟩)∧rs.length=rs'.length∧(∀(i:Nat) r',rs'[i]? =some r'→∃r,rs[i]? =some r∧RecLe E' E lim r' r)∧∀h v,panO EP' lim o' ⟨s'.T,h⟩=some v→panO EP lim o ⟨T,h⟩=some v
 | [],M,M',os',st,T',rs',o',s',v,h,hR,hl,hl',hr,hv=>by
   simp only[Qa1,Option.some.injEq,Prod.mk.injEq]at h
   obtain⟨rfl,rfl⟩:=h
   cases hr
 |o::os,M,M',os',st,T',rs',o',s',v,h,hR,hl,hl',hr,hv=>by
  simp only[Qa1,Bool.false_eq_true,if_false]at h
  have step:∀ {M1:RM} {p:Option Nat} {os1:List COper},QcA M o=true→Qa1 false K nt nt' home M1 os=some (os1,M')→(∀v,Rel M1 (put (if(wanted st.T o.guard)=some true then unflag st.T o.cons else st.T) o.dst v) (put (if(wanted st.T o.guard)=some true then unflag T' (o.cons.map (QbP M))else T') p v))→
    traceP E' lim (QbV M o p::os1) ⟨T',st.H⟩=some (rs',o',s')→∃rs o2 T,traceP E lim (o::os) st=some (rs,o2,⟨T,s'.H⟩)∧rs.length=rs'.length∧(∀(i:Nat) r',rs'[i]? =some r'→∃r,rs[i]? =some r∧RecLe E' E lim r' r)∧∀h v,panO EP' lim o' ⟨s'.T,h⟩=some v→panO EP lim o2 ⟨T,h⟩=some v:=by
   intro M1 p os1 hok hs hput hr
   simp only[traceP]at hr
   split at hr
   ·rename_i r1 s1 h1
    split at hr
    ·rename_i rs1 o1 s2 h2
     simp only[Option.some.injEq,Prod.mk.injEq]at hr
     obtain⟨rfl,rfl,rfl⟩:=hr
     obtain⟨v1,r,e1,e2,e3⟩:=Qkg hE hok hR h1
     have hR2:=hput v1
     rw[←e1]at hR2
     obtain⟨rs,o2,T,h4,h5,h6,h7⟩:=Qfx hE hP hD os M1 M' os1 (st:=⟨put (if(wanted st.T o.guard)=some true then unflag st.T o.cons else st.T) o.dst v1,s1.H⟩) hs hR2 (Eq.trans (Qa5 _ _ _ _ _) hl) (by rw[e1,Qa5];exact hl') h2 hv
     refine⟨r::rs,o2,T, ?_,by simp[h5],fun i r' hi=> ?_,h7⟩
     ·simp only[traceP,e2]
      rw[h4]
     ·cases i with
      |zero=>simp at hi;subst hi;exact⟨r,rfl,e3⟩
      |succ i=>simpa using h6 i r' (by simpa using hi)
    ·simp at hr
   ·simp only[Option.some.injEq,Prod.mk.injEq]at hr
    obtain⟨rfl,rfl,rfl⟩:=hr
    have hp:=QfL hP hok hR hv
    refine⟨[],o,st.T, ?_,rfl,fun i r' hi=>by simp at hi,fun h v hv=>QfL hP hok hR hv⟩
    simp only[traceP,(QfM hD (s:=st) hp).2]
  split at h
  ·rename_i hok
   split at h
   ·rename_i hdst
    split at h
    ·rename_i os1 M1 hs
     simp only[Option.some.injEq,Prod.mk.injEq]at h
     obtain⟨rfl,rfl⟩:=h
     exact step hok hs (fun v=>Qc5 (nt:=nt) (nt':=nt') hok hR hl hl' (v:=v) none hdst M (.inl ⟨rfl,rfl,rfl⟩)) hr
    ·simp at h
   ·rename_i d hdst
    split at h
    ·rename_i hlt
     split at h
     ·rename_i os1 M1 hs
      simp only[Option.some.injEq,Prod.mk.injEq]at h
      obtain⟨rfl,rfl⟩:=h
      exact step hok hs (fun v=>Qc5 (nt:=nt) (nt':=nt') hok hR hl hl' (v:=v) (some d) hdst _ (.inr ⟨d,_,rfl,rfl,hlt.1,hlt.2,rfl⟩)) hr
     ·simp at h
    ·simp at h
  ·simp at h
theorem QjJ{rs' rs:List Rec}(h:∀i H H',runAt E' lim rs' i H=some H'→runAt E lim rs i H=some H'){ok' ok:Qab→Bool}(hok:∀h,ok' h=true→ok h=true){c:Chk}{p:Nat}:∀(k:Nat) (S:List Nat) (hp:Qab),exploreP E' lim rs' c p ok' k S hp=true→exploreP E lim rs c p ok k S hp=true:=by
 intro k
 induction k with
 |zero=>intro S hp hx;simp[exploreP]at hx
 |succ k ih=>
  intro S hp hx
  simp only[exploreP,Bool.and_eq_true,List.all_eq_true,Bool.or_eq_true]at hx⊢
  refine⟨⟨fun r hr=>(hx.1.1 r hr).imp (fun q=>q) fun q=> ?_,hx.1.2.imp (fun q=>q) (hok _)⟩,fun e he=>(hx.2 e he).imp (fun q=>q) fun q=> ?_⟩
  ·rw[Option.isSome_iff_exists]at q⊢
   obtain⟨y,hy⟩:=q
   exact⟨y,h _ _ _ hy⟩
  ·split at q
   ·rename_i h' hr
    rw[h _ _ _ hr]
    exact ih _ _ q
   ·cases q
theorem Qb8(hE:Le E' E)(hP:PLe EP' EP)(hD:Disj E EP)(hex:∀e∈home,e.ex=true){k:Nat}:∀(c c':CCode) {st s':St} {v:PV},QbK K nt nt' home c=some c'→SR K nt nt' home st s'→QbQ E' EP' lim (fun b s=>Qas b k s) (fun b s=>Qas b k s) c' s'=some v→
  QbQ E EP lim (fun b s=>Qas b k s) (fun b s=>Qas b k s) c st=some v
 |.skip,c',st,s',v,hc,hs,h=>by simp only[QbK,Option.some.injEq]at hc;subst hc;simp[QbQ]at h
 |.exit id,c',st,s',v,hc,hs,h=>by simp only[QbK,Option.some.injEq]at hc;subst hc;simp[QbQ]at h
 |.ret,c',st,s',v,hc,hs,h=>by simp only[QbK,Option.some.injEq]at hc;subst hc;simp[QbQ]at h
 |.region ops chk fg,c',st,s',v,hc,hs,h=>by
  simp only[QbK]at hc
  split at hc
  ·rename_i ops' M hso
   split at hc
   ·simp only[Option.some.injEq]at hc;subst hc
    obtain⟨T',H⟩:=s'
    have hm:=hs.mem
    simp only at hm;subst hm
    simp only[QbQ]at h⊢
    cases chk with
    |none=>
     simp only[panR]at h⊢
     exact QdH hE hP hD _ ops home M ops' hso hs.rel hs.len hs.len' h
    |some c=>
     simp only[panR]at h⊢
     split at h
     ·cases h
     ·rename_i hpl
      split at h
      ·rename_i rs' o' s2 htp
       split at h
       ·rename_i v2 hv2
        split at h
        ·rename_i hx
         simp only[Option.some.injEq]at h;subst h
         obtain⟨rs,o,T,q1,q2,q3,q4⟩:=Qfx hE hP hD ops home M ops' hso hs.rel hs.len hs.len' htp hv2
         have hp:=q4 s2.H v2 hv2
         simp only[q1,hp,q2]
         rw[if_pos]
         refine QjJ (fun i H H' hr=>Qkc q3 hr) (fun h hh=> ?_) _ _ _ hx
         unfold panAt at hh⊢
         split at hh
         ·rename_i w hw
          rw[q4 h w hw]
          exact hh
         ·cases hh
        ·cases h
       ·cases h
      ·cases h
   ·simp at hc
  ·simp at hc
 |.seq a b,c',st,s',v,hc,hs,h=>by
  simp only[QbK]at hc
  split at hc
  ·rename_i a' b' ha hb
   simp only[Option.some.injEq]at hc;subst hc
   simp only[QbQ]at h⊢
   split at h
   ·rename_i s3 h3
    obtain⟨st3,q1,q2⟩:=QaZ hE hex a a' ha hs h3
    rw[q1]
    exact Qb8 hE hP hD hex b b' hb q2 h
   ·cases h
   ·have:=Qb8 hE hP hD hex a a' ha hs h
    rw[QbY a this]
    exact this
  ·simp at hc
 |.cond c a b,c',st,s',v,hc,hs,h=>by
  simp only[QbK]at hc
  split at hc
  ·rename_i hok
   split at hc
   ·rename_i a' b' ha hb
    simp only[Option.some.injEq]at hc;subst hc
    simp only[QbQ]at h⊢
    rw[Qnd hs hok]at h
    split at h
    ·rename_i t ht
     cases t with
     |true=>simpa using Qb8 hE hP hD hex a a' ha hs (by simpa using h)
     |false=>simpa using Qb8 hE hP hD hex b b' hb hs (by simpa using h)
    ·cases h
   ·simp at hc
  ·simp at hc
 |.block id a,c',st,s',v,hc,hs,h=>by
  simp only[QbK,Option.map_eq_some_iff]at hc
  obtain⟨a',ha,rfl⟩:=hc
  simp only[QbQ]at h⊢
  exact Qb8 hE hP hD hex a a' ha hs h
 |.loop a,c',st,s',v,hc,hs,h=>by
  simp only[QbK,Option.map_eq_some_iff]at hc
  obtain⟨a',ha,rfl⟩:=hc
  simp only[QbQ]at h⊢
  have key:∀(m:Nat) {st s':St},SR K nt nt' home st s'→Qas (fun s=>match evalC E' lim (fun b s=>Qas b k s) a' s with
        |some (.normal,s')=>some (.inl s')
        |some _=>none
        |none=>match QbQ E' EP' lim (fun b s=>Qas b k s) (fun b s=>Qas b k s) a' s with
         |some r=>some (.inr r)
         |none=>none) m s'=some v→Qas (fun s=>match evalC E lim (fun b s=>Qas b k s) a s with
        |some (.normal,s')=>some (.inl s')
        |some _=>none
        |none=>match QbQ E EP lim (fun b s=>Qas b k s) (fun b s=>Qas b k s) a s with
         |some r=>some (.inr r)
         |none=>none) m st=some v:=by
   intro m
   induction m with
   |zero=>intro st s' _ h;simp[Qas]at h
   |succ m ih=>
    intro st s' hs h
    simp only[Qas]at h⊢
    cases he:evalC E' lim (fun b s=>Qas b k s) a' s' with
    |none=>
     rw[he]at h
     simp only at h
     cases hp:QbQ E' EP' lim (fun b s=>Qas b k s) (fun b s=>Qas b k s) a' s' with
     |none=>rw[hp]at h;simp at h
     |some w=>
      rw[hp]at h
      simp only[Option.some.injEq]at h;subst h
      have:=Qb8 hE hP hD hex a a' ha hs hp
      rw[QbY a this,this]
    |some r=>
     obtain⟨e,s3⟩:=r
     obtain⟨st3,q1,q2⟩:=QaZ hE hex a a' ha hs he
     rw[he]at h
     rw[q1]
     cases e with
     |normal=>exact ih q2 h
     |exit i=>simp at h
     |ret=>simp at h
  exact key k hs h
theorem sr_start{kp:List Nat}{fn:CFn}{args:List AV}(hl:args.length=fn.nargs)(H:Qab)
  (hck:((Qdf fn.nargs kp).all fun e=>decide (e.n<max fn.nargs fn.ntmps)&&decide (e.p<nt')&&(decide (e.n<fn.nargs)==decide (e.p<fn.nargs))&&(decide (e.n<fn.nargs→e.p=e.n)))=true)(hn:fn.nargs≤nt'):
  SR (Qdf fn.nargs kp).length (max fn.nargs fn.ntmps) nt' (Qdf fn.nargs kp) ⟨args++List.replicate (fn.ntmps-args.length) (.tuple []),H⟩ ⟨args++List.replicate (nt'-args.length) (.tuple []),H⟩ where
 rel e hm:=by
  simp only[List.all_eq_true,Bool.and_eq_true,decide_eq_true_eq,beq_iff_eq]at hck
  obtain⟨⟨⟨q1,q2⟩,q3⟩,q4⟩:=hck e hm
  have hex:e.ex=true:=by
   simp only[Qdf,List.mem_map]at hm
   obtain⟨q,_,rfl⟩:=hm
   rfl
  rw[if_pos hex]
  simp only[List.getD]
  by_cases hn:e.n<fn.nargs
  ·have:=q4 hn
   rw[this,List.getElem?_append_left (by omega),List.getElem?_append_left (by omega)]
  ·have hp:¬e.p<fn.nargs:=fun q=>by
    have:decide (e.p<fn.nargs)=true:=decide_eq_true q
    rw[this]at q3
    exact hn (of_decide_eq_true q3)
   rw[List.getElem?_append_right (by omega),List.getElem?_append_right (by omega)]
   have e1:(List.replicate (nt'-args.length) (AV.tuple []))[e.p-args.length]? =some (.tuple []):=by
    rw[List.getElem?_replicate,if_pos (by omega)]
   have e2:(List.replicate (fn.ntmps-args.length) (AV.tuple []))[e.n-args.length]? =some (.tuple []):=by
    rw[List.getElem?_replicate,if_pos (by omega)]
   rw[e1,e2]
 len:=by simp only[List.length_append,List.length_replicate];omega
 len':=by simp only[List.length_append,List.length_replicate];omega
 mem:=rfl
theorem fnP_slim(hE:Le E' E)(hP:PLe EP' EP)(hD:Disj E EP){k:Nat}{kp:List Nat}{fn fn':CFn}(hf:Qae kp nt' fn=some fn'){args:List AV}{H:Qab}{v:PV}
  (h:Qea E' EP' (fun b s=>Qas b k s) (fun b s=>Qas b k s) fn' lim args H=some v):Qea E EP (fun b s=>Qas b k s) (fun b s=>Qas b k s) fn lim args H=some v:=by
 simp only[Qae]at hf
 split at hf
 ·rename_i hck
  simp only[Option.map_eq_some_iff]at hf
  obtain⟨b,hb,rfl⟩:=hf
  rw[Bool.and_eq_true,Bool.and_eq_true,decide_eq_true_eq]at hck
  obtain⟨⟨hck1,hck2⟩,hck3⟩:=hck
  have hex:∀e∈Qdf fn.nargs kp,e.ex=true:=fun e he=>by
   simp only[Qdf,List.mem_map]at he
   obtain⟨q,_,rfl⟩:=he
   rfl
  simp only[Qea]at h⊢
  split at h
  ·rename_i hl
   rw[if_pos hl]
   exact Qb8 hE hP hD hex _ _ hb (sr_start hl H hck1 hck3) h
  ·cases h
 ·simp at hf
end
def QcW(prim:FuncId→Option Qba)(primP:FuncId→Option Qeh):Prop:=∀f FP,primP f=some FP→∃F,prim f=some F∧∀lim a H v,FP lim a H=some v→F lim a H=none
theorem QkJ{code:FuncId→Option CFn}{pf:FuncId→Bool}{prim:FuncId→Option Qba}{primP:FuncId→Option Qeh}(hd:QcW prim primP):∀k,Disj (QaE code prim k) (QbZ code pf prim primP k)
 |0=>fun f lim a H v h=>by simp[QbZ]at h
 |k+1=>fun f lim a H v h=>by
  simp only[QbZ]at h
  simp only[QaE]
  split at h
  ·cases hpp:primP f with
   |some FP=>
    rw[hpp]at h
    obtain⟨F,h1,h2⟩:=hd f FP hpp
    simp only[h1]
    exact h2 lim a H v h
   |none=>
    rw[hpp]at h
    cases hp:prim f with
    |some F=>rw[hp]at h;cases h
    |none=>
     simp only[hp]at h⊢
     cases hc:code f with
     |none=>simp only[hc]at h;cases h
     |some fn=>
      simp only[hc]at h
      simp only[Qea]at h
      refine QlD ?_
      simp only[Qfb]
      split at h
      ·rename_i hl
       rw[if_pos hl,QbY _ h]
      ·cases h
  ·cases h
theorem QiP{code code':FuncId→Option CFn}{pf:FuncId→Bool}{prim:FuncId→Option Qba}{primP:FuncId→Option Qeh}(hd:QcW prim primP)(hc:∀f c',code' f=some c'→∃c kp nt',code f=some c∧Qae kp nt' c=some c'):∀k,PLe (QbZ code' pf prim primP k) (QbZ code pf prim primP k)
 |0=>fun f lim a H r h=>by simp[QbZ]at h
 |k+1=>fun f lim a H r h=>by
  simp only[QbZ]at h⊢
  split at h
  ·rename_i hp
   rw[if_pos hp]
   cases hpp:primP f with
   |some FP=>rw[hpp]at h;exact h
   |none=>
    rw[hpp]at h
    cases hpr:prim f with
    |some F=>rw[hpr]at h;cases h
    |none=>
     simp only[hpr]at h⊢
     cases hc':code' f with
     |none=>simp only[hc']at h;cases h
     |some c'=>
      simp only[hc']at h
      obtain⟨c,kp,nt',h1,h2⟩:=hc f c' hc'
      simp only[h1]
      exact fnP_slim (Qeb hc k) (QiP hd hc k) (QkJ hd k) h2 h
  ·cases h
def AllSlimP(P:Program)(pf:FuncId→Bool):Nat→List (Option CFn)→Prop
 |_,[]=>True
 |n,none::l=>AllSlimP P pf (n+1) l
 |n,some c::l=>(∃tk keep kp nt',(Qaa P tk keep kp n).bind (fun c0=>if pf n&& !panCk pf c0.body then none else Qae kp nt' c0)=some c)∧AllSlimP P pf (n+1) l
theorem AllSlimP.get{P:Program}{pf:FuncId→Bool}:∀ {l:List (Option CFn)} {n:Nat},AllSlimP P pf n l→∀(i:Nat) c,l[i]? =some (some c)→∃tk keep kp nt' c0,Qaa P tk keep kp (n+i)=some c0∧Qae kp nt' c0=some c∧(pf (n+i)=true→panCk pf c0.body=true)
 | [],_,_,i,c,h=>by simp at h
 |none::l,n,hl,i,c,h=>by
  cases i with
  |zero=>simp at h
  |succ i=>have:=AllSlimP.get (l:=l) (n:=n+1) hl i c (by simpa using h);rwa [Nat.add_assoc,Nat.add_comm 1 i]at this
 |some d::l,n,hl,i,c,h=>by
  cases i with
  |zero=>
   simp at h;subst h
   obtain⟨tk,keep,kp,nt',h1⟩:=hl.1
   simp only[Option.bind_eq_some_iff]at h1
   obtain⟨c0,h2,h3⟩:=h1
   split at h3
   ·cases h3
   ·rename_i hn
    exact⟨tk,keep,kp,nt',c0,h2,h3,fun hp=>by simpa[show pf n=true from hp]using hn⟩
  |succ i=>have:=AllSlimP.get (l:=l) (n:=n+1) hl.2 i c (by simpa using h);rwa [Nat.add_assoc,Nat.add_comm 1 i]at this
theorem Qho{P:Program}{pf:FuncId→Bool}{l:List (Option CFn)}(h:AllSlimP P pf 0 l):∃code,Qhh P code∧QnF code pf∧∀f c',QcG l f=some c'→∃c kp nt',code f=some c∧Qae kp nt' c=some c':=by
 have key:∀f c',QcG l f=some c'→∃c tk keep kp nt',Qaa P tk keep kp f=some c∧Qae kp nt' c=some c'∧(pf f=true→panCk pf c.body=true):=fun f c' hc=>by
  obtain⟨tk,keep,kp,nt',c,h1,h2,h3⟩:=h.get f c' (QjQ hc)
  rw[Nat.zero_add]at h1 h3
  exact⟨c,tk,keep,kp,nt',h1,h2,h3⟩
 classical
 refine⟨fun f=>if hf:∃c tk keep kp nt' c',QcG l f=some c'∧Qaa P tk keep kp f=some c∧Qae kp nt' c=some c'∧(pf f=true→panCk pf c.body=true)then some (Classical.choose hf)else none,fun f c hc=> ?_,fun f c hp hc=> ?_,fun f c' hc=> ?_⟩
 ·simp only at hc
  split at hc
  ·rename_i hf
   simp only[Option.some.injEq]at hc;subst hc
   obtain⟨tk,keep,kp,nt',c',h1,h2,_⟩:=Classical.choose_spec hf
   exact⟨tk,keep,kp,h2⟩
  ·cases hc
 ·simp only at hc
  split at hc
  ·rename_i hf
   simp only[Option.some.injEq]at hc;subst hc
   obtain⟨tk,keep,kp,nt',c',h1,h2,_,h4⟩:=Classical.choose_spec hf
   exact h4 hp
  ·cases hc
 ·obtain⟨c,tk,keep,kp,nt',h1,h2,h3⟩:=key f c' hc
  have hf:∃c tk keep kp nt' c',QcG l f=some c'∧Qaa P tk keep kp f=some c∧Qae kp nt' c=some c'∧(pf f=true→panCk pf c.body=true):=⟨c,tk,keep,kp,nt',c',hc,h1,h2,h3⟩
  obtain⟨tk,keep,kp,nt',c'',h1,_,h3,_⟩:=Classical.choose_spec hf
  rw[hc]at h1
  simp only[Option.some.injEq]at h1;subst h1
  exact⟨_,kp,nt',dif_pos hf,h3⟩
theorem slimP_ok{P:Program}{pf:FuncId→Bool}{l:List (Option CFn)}{prim:FuncId→Option Qba}{primP:FuncId→Option Qeh}(hmx:P.follows .mixedOrders=true)(hp:∀f F,prim f=some F→FSound P f F)(hpp:∀f F,primP f=some F→PSound P f F)(hd:QcW prim primP)(hc:AllSlimP P pf 0 l):
  ∃(E:Nat→Qa0) (EP:Nat→QeP),(∀k,Qcn P (E k))∧(∀k f,PSound P f (EP k f))∧(∀k,Le (QaE (QcG l) prim k) (E k))∧∀k,PLe (QbZ (QcG l) pf prim primP k) (EP k):=by
 obtain⟨code,h1,h2,h3⟩:=Qho hc
 exact⟨QaE code prim,QbZ code pf prim primP,Qgf hmx h1 hp,QlA hmx h1 h2 hp hpp,Qeb h3,QiP hd h3⟩
theorem QfE{P:Program}{pf:FuncId→Bool}{l:List (Option CFn)}{prim:FuncId→Option Qba}(hmx:P.follows .mixedOrders=true)(hp:∀f F,prim f=some F→FSound P f F)(hc:AllSlimP P pf 0 l){f:FuncId}(hpf:prim f=none){args:List AV}{b:Bool}
  (h:Ev (QaE (QcG l) prim) f 0 args [] (.d (.bool b)) []){vals:Array Value}{w:World}(hG:QlH w)(hv:ArgsOK w args vals.toList):Calls P f vals w fun e w'=>e= .returned (.bool b)∧Below w.heap.size w w':=by
 obtain⟨code,h1,_,h2⟩:=Qho hc
 obtain⟨k,hk⟩:=Ev.at h
 exact QmY hmx h1 hp hpf (Qeb h2 k f 0 args [] _ hk) hG hv
end Go.Abs
namespace Go.Abs
open Go.RowKit Go.Deep
variable [Tab]
theorem QmR{α β:Type}{Q:α→Prop}{f:α→β}:∀ {xs:List β},(∀x∈xs,∃y,Q y∧x=f y)→∃l:List α,(∀y∈l,Q y)∧xs=l.map f
 | [],_=>⟨[],by simp,rfl⟩
 |x::xs,h=>by
  obtain⟨y,h1,h2⟩:=h x (by simp)
  obtain⟨l,h3,h4⟩:=QmR (xs:=xs) fun z hz=>h z (by simp[hz])
  exact⟨y::l,by simpa using⟨h1,h3⟩,by simp[h2,h4]⟩
section
variable {P:Program} {w:World} {t e:TypeId}
theorem Opens.mono{A B:List D→Prop}(h:Opens P w t A)(k:∀ds,A ds→B ds):Opens P w t B:=fun fuel H enc base sp hd cs x hx hw=>by
 obtain⟨ds,h1,h2⟩:=h fuel H enc base sp hd cs x hx hw
 exact⟨ds,k _ h1,h2⟩
theorem wf_i64{n:Int}(h:(Lit.int .i64 n).wf=true): -9223372036854775808≤n∧n≤9223372036854775807:=by
 simp only[Lit.wf,Bool.and_eq_true,decide_eq_true_eq,IntKind.min,IntKind.max,IntKind.signed,IntKind.bits]at h
 have e1:(2:Int)^(64-1)=9223372036854775808:=by decide
 simp only[if_true,e1]at h
 omega
theorem wf_u8{n:Int}(h:(Lit.int .u8 n).wf=true):0≤n∧n≤255:=by
 simp only[Lit.wf,Bool.and_eq_true,decide_eq_true_eq]at h
 have e1:IntKind.u8.min=0:=by decide
 have e2:IntKind.u8.max=255:=by decide
 rw[e1,e2]at h
 exact h
theorem Qmz(ht:P.underlying t=some (.int .i64)):Opens P w t fun ds=>∃n:Int,ds= [.int .i64 n]∧(-9223372036854775808≤n∧n≤9223372036854775807):=
 (Qil ht).mono fun ds ⟨n,h1,h2⟩=>⟨n,h1,wf_i64 h2⟩
theorem Qjt(ht:P.underlying t=some (.slice e))(he:P.underlying e=some (.int .u8))(hs:P.cellsOf e=1):Opens P w t fun ds=>∃s:List UInt8,ds= [bD s]∧s.length≤maxLen:=
 (Qjs ht hs (by decide) (Qil he)).mono fun ds ⟨xs,h1,h2,h3⟩=>by
   obtain⟨l,h4,h5⟩:=QmR (Q:=fun _:UInt8=>True) (f:=Qai) (xs:=xs) fun x hx=>by
    obtain⟨es,⟨n,rfl,hw⟩,_,rfl⟩:=h3 x hx
    have:=wf_u8 hw
    refine⟨UInt8.ofNat n.toNat,trivial, ?_⟩
    simp only[pack,Qai,if_true,List.headD_cons,D.int.injEq,true_and]
    rw[show(UInt8.ofNat n.toNat).toNat=n.toNat % 256 from by simp]
    omega
   exact⟨l,by rw[h1,h5],by rw[h5]at h2;simpa using h2⟩
theorem arg_one{H:Type}{enc:TypeId×Value→H}{base:Nat}{sp:Nat→Bool}{hd:Bool}{v:Value}{d:DataW H}{ps:List MemPlace}{A:List D→Prop}(ho:Opens P w t A)(hc:v.cells.toList= [v])(h:DataW.Trod enc P w base sp hd t v d ps)(hw:QnG P t d):
  ∃x,A [x]∧VR (Gh.still w) w (.d x) v∧Triv (.d x) v:=by
 obtain⟨fuel,hf⟩:=h
 obtain⟨ds,h1,h2⟩:=ho fuel H enc base sp hd _ _ hf hw
 rw[hc]at h2
 have:=h2.len
 match ds,this with
 | [x],_=>exact⟨x,h1,arg_vr h2⟩
theorem Qi0{H:Type}{enc:TypeId×Value→H}{r:Reach}{b0 base:Nat}{sp:Nat→Bool}{hd:Bool}{v:Value}{d:DataW H}{ps:List MemPlace}{A:List D→Prop}(ht:P.underlying t=some (.slice e))(hval:Value.okWide P w r b0 t v)(ho:Opens P w t A)(h:DataW.Trod enc P w base sp hd t v d ps)(hw:QnG P t d):
  ∃x,A [x]∧VR (Gh.still w) w (.d x) v∧Triv (.d x) v:=by
 obtain⟨a,len,cap,rfl⟩:=WideShapes.okWide_slice ht hval
 exact arg_one ho (by simp[Value.cells]) h hw
theorem Qhd{fs:Array Field}{H:Type}{enc:TypeId×Value→H}{r:Reach}{b0 base:Nat}{sp:Nat→Bool}{hd:Bool}{v:Value}{d:DataW H}{ps:List MemPlace}{A:List D→Prop}(ht:P.underlying t=some (.struct fs))(hval:Value.okWide P w r b0 t v)(ho:Opens P w t A)(h:DataW.Trod enc P w base sp hd t v d ps)(hw:QnG P t d):
  ∃ds,A ds∧VR (Gh.still w) w (.d (.agg ds)) v∧Triv (.d (.agg ds)) v:=by
 obtain⟨cs,rfl,_⟩:=WideShapes.okWide_struct ht hval
 obtain⟨fuel,hf⟩:=h
 obtain⟨ds,h1,h2⟩:=ho fuel H enc base sp hd _ _ hf hw
 have e:(Value.agg cs).cells.toList=cs.toList:=by simp[Value.cells]
 rw[e]at h2
 exact⟨ds,h1,.d _ _ (.agg ds cs (by simpa using h2.len) h2.cell fun i c u hc hu=>h2.dr i c u hc (by simpa using hu)),Triv.d _ _⟩
theorem Qdr{H:Type}{enc:TypeId×Value→H}{base:Nat}{sp:Nat→Bool}{hd:Bool}{v:Value}{d:DataW H}{ps:List MemPlace}(h:DataW.Trod enc P w base sp hd t v d ps):∀x∈ps,x.block<w.heap.size:=by
 obtain⟨m,hm⟩:=h
 exact DataW.trod_lt m _ _ _ hm
end
end Go.Abs
namespace Go.Abs
variable [Tab]
theorem z1:type_of% @Qci:= @Qci
theorem z2:type_of% @List.getD_cons_succ:= @List.getD_cons_succ
theorem z3:type_of% @List.getD_cons_zero:= @List.getD_cons_zero
theorem z4:type_of% @List.set_cons_succ:= @List.set_cons_succ
end Go.Abs
namespace Go.Abs
variable [Tab]
def QbI:Qba:=fun _ args H=>match args with
 | [.d (.str s),.d (.int .u8 c)]=>some (.d (.int .i64 (Lib.indexByte s c.toNat.toUInt8)),H)
 |_=>none
theorem QjC{lim:Nat}{args:List AV}{H:Qab}{r:AV×Qab}(h:QbI lim args H=some r):∃s c,args= [.d (.str s),.d (.int .u8 c)]∧r=(.d (.int .i64 (Lib.indexByte s c.toNat.toUInt8)),H):=by
 unfold QbI at h
 split at h
 ·simp only[Option.some.injEq]at h
  exact⟨_,_,rfl,h.symm⟩
 ·cases h
theorem QhG{P:Program}{f:FuncId}{fn:Func}(hf:P.funcs[f]? =some fn)(hname:(fn.name== "runtime.NumGoroutine")=false)(hb:fn.body.isNone=true)(hn:Extern.findNext fn=none)
  (he:Extern.find fn=some Extern.BytealgIndexByte.indexByte):FSound P f QbI:=by
 intro lim args H a H' h hlim
 obtain⟨s,c,rfl,hr⟩:=QjC h
 obtain⟨rfl,rfl⟩:=Prod.mk.inj hr
 refine⟨Ext.refl _ _,fun vals g w hH hn' hl hv=> .inr ?_⟩
 obtain⟨vl⟩:=vals
 match vl,hl with
 | [u,v],_=>
   have h0:=(hv 0 _ u rfl (by simp)).1
   have h1:=(hv 1 _ v rfl (by simp)).1
   cases h0 with
   |d _ _ h0=>cases h0 with
    |str _ t ht=>cases h1 with
     |d _ _ h1=>cases h1 with
      |int _ _=>
       refine⟨.int .i64 (Lib.indexByte s c.toNat.toUInt8),g,w, ?_,WF.refl _ _,hH,.d _ _ (.int _ _),fun xs e=>by cases e⟩
       rw[run_callFunc_extern hf hname hb hn he]
       have:=Lib.run_indexByteString (P:=P) t c w
       rw[ht]at this
       rw[this];rfl
end Go.Abs
namespace Go.Abs
open Go.RowKit
variable [Tab]
section
variable {g:Gh} {H:Qab} {w w':World}
theorem Qfp(hH:HeapOK g H w)(h:Below w.heap.size w w'):WF g w g w' where
 os:=h.os
 tape:=h.tape
 output:=h.output
 size:=h.size
 idle b hb _:=⟨h.block b hb,rfl,rfl⟩
 stays b i hi:=⟨hi,Qbh (h.block b (hH.bd_lt hi)) i⟩
 n:=Nat.le_refl _
 rho _ _:=rfl
 out _ h:=h
 mine _ h:=h
theorem Qhc(hH:HeapOK g H w)(h:Below w.heap.size w w'):HeapOK g H w' where
 n:=hH.n
 own:=hH.own
 obj r o ho:=(hH.obj r o ho).keep (Qfp hH h) (by rw[hH.n];exact(List.getElem?_eq_some_iff.1 ho).1)
  (fun hd=>h.block _ (hH.rho_lt (by rw[hH.n];exact(List.getElem?_eq_some_iff.1 ho).1) (by unfold Qco;rw[ho];intro e;injection e with e;exact hd e)))
  (fun j c v hf=>hf.keep fun b hb=>⟨hb,rfl,fun cs e fr hh hz=>⟨cs,fr,by rw[h.block b (hH.own_lt (by rw[hb];simp))];exact hh,rfl,hz⟩⟩)
 new b hb:=hH.new b (Nat.le_trans h.size hb)
 glob n cs hn:=(Qfp hH h).vr (hH.glob n cs hn)
end
theorem text_sound{P:Program}{f:FuncId}{fn:Func}(hf:P.funcs[f]? =some fn)(hb:fn.body.isSome=true)(hname:(fn.name== "runtime.NumGoroutine")=false){ok:List UInt8→Prop} [DecidablePred ok]{out:List UInt8→D}{res:ByteArray→Value}
  (hr:∀(bd:Nat→Nat) (w:World) s,DR bd w (out s.data.toList) (res s))
  (h:∀(g:Gh) (H:Qab) (w:World),HeapOK g H w→∀s:ByteArray,ok s.data.toList→Calls P f #[.string s] w fun e w'=>e= .returned (res s)∧Below w.heap.size w w'):
  FSound P f fun _ args H=>match args with
   | [.d (.str s)]=>if ok s then some (.d (out s),H)else none
   |_=>none:=by
 intro lim args H a H' hF hlim
 simp only at hF
 split at hF
 ·rename_i s
  split at hF
  ·rename_i hok
   simp only[Option.some.injEq,Prod.mk.injEq]at hF
   obtain⟨rfl,rfl⟩:=hF
   refine⟨Ext.refl _ _,fun vals g w hH hn hl hv=> .inl ⟨⟨fn,hf,hb,hname⟩, ?_⟩⟩
   obtain⟨vl⟩:=vals
   match vl,hl with
   | [u],_=>
     have h0:=(hv 0 _ u rfl (by simp)).1
     cases h0 with
     |d _ _ h0=>cases h0 with
      |str _ t ht=>
       subst ht
       refine Calls.mono (h g H w hH t hok) ?_
       rintro e w' ⟨rfl,hbel⟩
       exact⟨_,g,rfl,Qfp hH hbel,Qhc hH hbel,.d _ _ (hr _ _ t),fun xs e=>by cases e⟩
  ·cases hF
 ·cases hF
theorem Qjc{P:Program}{f:FuncId}{fn:Func}(hf:P.funcs[f]? =some fn)(hb:fn.body.isSome=true)(hname:(fn.name== "runtime.NumGoroutine")=false){ok:List UInt8→Prop} [DecidablePred ok]{out out2:List UInt8→D}{res res2:ByteArray→Value}
  (hr:∀(bd:Nat→Nat) (w:World) s,DR bd w (out s.data.toList) (res s))(hr2:∀(bd:Nat→Nat) (w:World) s,DR bd w (out2 s.data.toList) (res2 s))
  (h:∀(g:Gh) (H:Qab) (w:World),HeapOK g H w→∀s:ByteArray,ok s.data.toList→Calls P f #[.string s] w fun e w'=>e= .returned (.tuple #[res s,res2 s])∧Below w.heap.size w w'):
  FSound P f fun _ args H=>match args with
   | [.d (.str s)]=>if ok s then some (.tuple [.d (out s),.d (out2 s)],H)else none
   |_=>none:=by
 intro lim args H a H' hF hlim
 simp only at hF
 split at hF
 ·rename_i s
  split at hF
  ·rename_i hok
   simp only[Option.some.injEq,Prod.mk.injEq]at hF
   obtain⟨rfl,rfl⟩:=hF
   refine⟨Ext.refl _ _,fun vals g w hH hn hl hv=> .inl ⟨⟨fn,hf,hb,hname⟩, ?_⟩⟩
   obtain⟨vl⟩:=vals
   match vl,hl with
   | [u],_=>
     have h0:=(hv 0 _ u rfl (by simp)).1
     cases h0 with
     |d _ _ h0=>cases h0 with
      |str _ t ht=>
       subst ht
       refine Calls.mono (h g H w hH t hok) ?_
       rintro e w' ⟨rfl,hbel⟩
       refine⟨_,g,rfl,Qfp hH hbel,Qhc hH hbel,.tuple _ _ rfl (fun i c v hc hv=> ?_) (fun i c v hc hv=> ?_),fun xs e=>by cases e⟩
       ·match i with
        |0=>cases hc;cases hv;exact .d _ _ (hr _ _ t)
        |1=>cases hc;cases hv;exact .d _ _ (hr2 _ _ t)
        |i+2=>simp at hc
       ·match i with
        |0=>cases hc;exact Triv.d _ _
        |1=>cases hc;exact Triv.d _ _
        |i+2=>simp at hc
  ·cases hF
 ·cases hF
end Go.Abs
namespace Go.Abs
open Go.RowKit
variable [Tab]
def Gh.bare(g:Gh):Gh:= { bd:=g.bd,own:=fun _=> .free,rho:=fun _=>0,rm:=fun _=>0,n:=0 }
theorem Qnv{g:Gh}{H:Qab}{w:World}(h:HeapOK g H w):HeapOK g.bare [] w where
 n:=rfl
 own r hr:=by simp[Gh.bare]at hr
 obj r o ho:=by simp at ho
 new b hb:=⟨rfl,(h.new b hb).2⟩
 glob n cs hn:=by
  cases h.glob n cs hn with
  |pref _ _ _ vs hf hc h=>exact .pref cs _ _ vs hf hc h
def Gh.join(g g':Gh)(w w':World):Gh:=
 { g with bd:=fun b=>if b<w.heap.size then g.bd b else g'.bd b,own:=fun b=>if b<w.heap.size then g.own b else if b<w'.heap.size then .mine else .free }
section
variable {g g':Gh} {H:Qab} {w w':World}
theorem QjB(hH:HeapOK g H w)(hw:WF g.bare w g' w'):WF g w (g.join g' w w') w' where
 os:=hw.os
 tape:=hw.tape
 output:=hw.output
 size:=hw.size
 idle b hb ho:=⟨(hw.idle b hb (.inl rfl)).1,by simp[Gh.join,hb],by simp[Gh.join,hb]⟩
 stays b i hi:=by
  have hb:=hH.bd_lt hi
  exact⟨by simp only[Gh.join];rw[if_pos hb];exact hi,Qbh (hw.idle b hb (.inl rfl)).1 i⟩
 n:=Nat.le_refl _
 rho _ _:=rfl
 out b hb:=by
  simp only[Gh.join]at hb
  split at hb
  ·exact hb
  ·split at hb<;>cases hb
 mine b hb:=by
  have hlt:=hH.own_lt (b:=b) (by rw[hb];simp)
  simp only[Gh.join]
  rw[if_pos hlt];exact hb
theorem Qm1(hH:HeapOK g H w)(hw:WF g.bare w g' w')(hh:HeapOK g' [] w'):HeapOK (g.join g' w w') H w' where
 n:=hH.n
 own r hr ha:=by
  obtain⟨h1,h2⟩:=hH.own r hr ha
  have hb:=hH.rho_lt hr ha
  exact⟨by simp only[Gh.join];rw[if_pos hb];exact h1,by simp only[Gh.join];rw[if_pos hb];exact h2⟩
 obj r o ho:=by
  have hr:r<g.n:=by rw[hH.n];exact(List.getElem?_eq_some_iff.1 ho).1
  refine(hH.obj r o ho).keep (QjB hH hw) hr (fun hd=>(hw.idle _ (hH.rho_lt hr (by unfold Qco;rw[ho];intro e;injection e with e;exact hd e)) (.inl rfl)).1) (fun j a v hf=>hf.keep fun b hb=> ?_)
  have hlt:=hH.own_lt (b:=b) (by rw[hb];simp)
  refine⟨by simp only[Gh.join];rw[if_pos hlt];exact hb,by simp only[Gh.join];rw[if_pos hlt],fun cs e fr hq hz=>⟨cs,fr,by rw[(hw.idle b hlt (.inl rfl)).1];exact hq,rfl,hz⟩⟩
 new b hb:=by
  have h1:¬b<w.heap.size:=fun h=>absurd (Nat.lt_of_lt_of_le h hw.size) (Nat.not_lt.2 hb)
  exact⟨by simp only[Gh.join];rw[if_neg h1,if_neg (Nat.not_lt.2 hb)],by simp only[Gh.join];rw[if_neg h1];exact(hh.new b hb).2⟩
 glob n cs hn:=(QjB hH hw).vr (hH.glob n cs hn)
theorem Qln(hw:WF g.bare w g' w'):∀b i,i<g'.bd b→i<(g.join g' w w').bd b∧QaL w' b i=QaL w' b i:=fun b i hi=>by
 refine⟨?_,rfl⟩
 simp only[Gh.join]
 split
 ·rename_i hb
  have:=(hw.idle b hb (.inl rfl)).2.2
  rw[show g.bare.bd b=g.bd b from rfl]at this
  rw[←this];exact hi
 ·exact hi
end
def liftF(F:Qba):Qba:=fun _ args H=>if(args.all fun a=>match a with|.d _=>true|_=>false)=true then match F 0 args []with
 |some (.d d,[])=>some (.d d,H)
 |_=>none
 else none
theorem Qll{P:Program}{f:FuncId}{F:Qba}(hF:FSoundC P f F):FSoundC P f (liftF F):=by
 intro lim args H a H' h hlim
 unfold liftF at h
 split at h
 ·rename_i hpure
  split at h
  ·rename_i d h0
   simp only[Option.some.injEq,Prod.mk.injEq]at h
   obtain⟨rfl,rfl⟩:=h
   obtain⟨q1,q2,q3⟩:=hF 0 args [] _ _ h0 (Nat.zero_le _)
   refine⟨q1,Ext.refl _ _,fun vals g w hH hn hl hv=> ?_⟩
   refine Calls.mono (q3 vals g.bare w (Qnv hH) (fun b=>by simp[Gh.bare]) hl fun i x v hx hv'=> ?_) ?_
   ·rw[List.all_eq_true]at hpure
    have hp:=hpure x (List.mem_of_getElem? hx)
    have hvr:=(hv i x v hx hv').1
    split at hp
    ·cases hvr with
     |d _ _ h=>exact⟨.d _ _ h,FOK.triv (Triv.d _ _)⟩
    ·cases hp
   ·rintro e w' ⟨v,g',rfl,k1,k2,k3,k4⟩
    refine⟨v,g.join g' w w',rfl,QjB hH k1,Qm1 hH k1 k2, ?_,FOK.triv (Triv.d _ _)⟩
    cases k3 with
    |d _ _ h=>exact .d _ _ (h.mono (Qln k1))
  ·cases h
 ·cases h
theorem QiU{P:Program}{pf:FuncId→Bool}{l:List (Option CFn)}{prim:FuncId→Option Qba}(hmx:P.follows .mixedOrders=true)(hp:∀f F,prim f=some F→FSound P f F)(hc:AllSlimP P pf 0 l){k:Nat}{f:FuncId}{d:D}(hpf:prim f=none)
  (h:QaE (QcG l) prim k f 0 [] []=some (.d d,[])):FSound P f fun _ args H=>match args with| []=>some (.d d,H)|_=>none:=by
 obtain⟨code,h1,_,h3⟩:=Qho hc
 have hl:=Qll (Qg7 hmx h1 hp k hpf)
 refine FSoundC.plain fun lim args H a H' hF hlim=> ?_
 cases args with
 |cons _ _=>cases hF
 |nil=>
  simp only[Option.some.injEq,Prod.mk.injEq]at hF
  obtain⟨rfl,rfl⟩:=hF
  refine hl lim [] H _ _ ?_ hlim
  have:=Qeb h3 k f 0 [] [] _ h
  simp only[liftF,List.all_nil,if_true,this]
end Go.Abs
namespace Go.Abs
variable [Tab]
section
variable (X:Nat→Qa0) (XP:Nat→QeP)
def EvP(f:FuncId)(lim:Nat)(args:List AV)(H:Qab)(p:PV):Prop:=∃k0,∀k,k0≤k→XP k f lim args H=some p
def Fv(f:FuncId)(lim:Nat)(args:List AV)(H:Qab)(Q:AV→Qab→Prop)(R:PV→Prop):Prop:=Fn X f lim args H Q∨∃p,EvP XP f lim args H p∧R p
def WP(lim:Nat)(c:CCode)(st:St)(R:PV→Prop):Prop:=
 ∃p,(∃k0,∀k n,k0≤k→k0≤n→QbQ (X k) (XP k) lim (fun b s=>Qas b n s) (fun b s=>Qas b n s) c st=some p)∧R p
def V(lim:Nat)(c:CCode)(st:St)(Q:AExit→St→Prop)(R:PV→Prop):Prop:=W X lim c st Q∨WP X XP lim c st R
def VO(lim:Nat)(ops:List COper)(st:St)(Q:St→Prop)(R:PV→Prop):Prop:=WO X lim ops st Q∨∃p,(∃k0,∀k,k0≤k→panOps (X k) (XP k) lim ops st=some p)∧R p
def seqV(lim:Nat)(b:CCode)(Q:AExit→St→Prop)(R:PV→Prop):AExit→St→Prop
 |.normal,s=>V X XP lim b s Q R
 |.exit i,s=>Q (.exit i) s
 |.ret,s=>Q .ret s
variable {X XP} {lim:Nat} {Q:AExit→St→Prop} {R:PV→Prop} {a b:CCode} {st:St}
theorem QnD{c:CCode}(h:W X lim c st Q):∃e st',(∃k0,∀k n,k0≤k→k0≤n→evalC (X k) lim (fun b s=>Qas b n s) c st=some (e,st'))∧Q e st':=by
 unfold W at h;exact h
theorem W_in{c:CCode}(h:∃e st',(∃k0,∀k n,k0≤k→k0≤n→evalC (X k) lim (fun b s=>Qas b n s) c st=some (e,st'))∧Q e st'):W X lim c st Q:=by
 unfold W;exact h
theorem Qcl(h:Q .normal st):V X XP lim .skip st Q R:= .inl (Qhe h)
theorem Qcm{id:Nat}(h:Q (.exit id) st):V X XP lim (.exit id) st Q R:= .inl (Qhf h)
theorem QdO(h:Q .ret st):V X XP lim .ret st Q R:= .inl (QlG h)
theorem QhT(h:V X XP lim a st (seqV X XP lim b Q R) R):V X XP lim (.seq a b) st Q R:=by
 rcases h with h|⟨v,⟨k0,h⟩,hr⟩
 ·obtain⟨e,s,⟨k0,h⟩,hq⟩:=QnD h
  cases e with
  |normal=>
   rcases(show V X XP lim b s Q R from hq)with hq|⟨v,⟨k1,h2⟩,hr⟩
   ·obtain⟨e2,s2,⟨k1,h2⟩,hq2⟩:=QnD hq
    exact .inl (W_in ⟨e2,s2,⟨max k0 k1,fun k n hk hn=>by simp only[evalC,h k n (by omega) (by omega)];exact h2 k n (by omega) (by omega)⟩,hq2⟩)
   ·exact .inr ⟨v,⟨max k0 k1,fun k n hk hn=>by simp only[QbQ,h k n (by omega) (by omega)];exact h2 k n (by omega) (by omega)⟩,hr⟩
  |exit i=>exact .inl (W_in ⟨.exit i,s,⟨k0,fun k n hk hn=>by simp only[evalC,h k n hk hn]⟩,hq⟩)
  |ret=>exact .inl (W_in ⟨.ret,s,⟨k0,fun k n hk hn=>by simp only[evalC,h k n hk hn]⟩,hq⟩)
 ·exact .inr ⟨v,⟨k0,fun k n hk hn=>by simp only[QbQ,QbY a (h k n hk hn)];exact h k n hk hn⟩,hr⟩
theorem QjW{c:Opd}(hc:evx st.T [] c= .d (.bool true))(h:V X XP lim a st Q R):V X XP lim (.cond c a b) st Q R:=by
 rcases h with h|⟨v,⟨k0,h⟩,hr⟩
 ·exact .inl (W_cT hc h)
 ·exact .inr ⟨v,⟨k0,fun k n hk hn=>by simp only[QbQ,hc,if_true];exact h k n hk hn⟩,hr⟩
theorem QjX{c:Opd}(hc:evx st.T [] c= .d (.bool false))(h:V X XP lim b st Q R):V X XP lim (.cond c a b) st Q R:=by
 rcases h with h|⟨v,⟨k0,h⟩,hr⟩
 ·exact .inl (W_cF hc h)
 ·exact .inr ⟨v,⟨k0,fun k n hk hn=>by simp only[QbQ,hc,Bool.false_eq_true,if_false];exact h k n hk hn⟩,hr⟩
theorem QjY{id:Nat}(h:V X XP lim a st (blockK id Q) R):V X XP lim (.block id a) st Q R:=by
 rcases h with h|⟨v,⟨k0,h⟩,hr⟩
 ·exact .inl (W_bk h)
 ·exact .inr ⟨v,⟨k0,fun k n hk hn=>by simp only[QbQ];exact h k n hk hn⟩,hr⟩
theorem Qhg{ops:List COper}{chk:Option Chk}{fg:List Nat}{st':St}(h:∀k,evalR (X k) lim ops chk fg st=some st')(hq:Q .normal st'):V X XP lim (.region ops chk fg) st Q R:= .inl (W_rg h hq)
theorem QaP{ops:List COper}{chk:Option Chk}{fg:List Nat}{st':St}(h:Evl fun k=>evalR (X k) lim ops chk fg st=some st')(hq:Q .normal st'):V X XP lim (.region ops chk fg) st Q R:= .inl (Qi3 h hq)
theorem V_pan{ops:List COper}{fg:List Nat}{chk:Option Chk}{v:PV}(h:Evl fun k=>panR (X k) (XP k) lim ops chk st=some v)(hr:R v):V X XP lim (.region ops chk fg) st Q R:=by
 obtain⟨k0,h⟩:=h
 exact .inr ⟨v,⟨k0,fun k n hk _=>by simp only[QbQ];exact h k hk⟩,hr⟩
theorem Evl.pan{f lim:Nat}{a:List AV}{H:Qab}{v:PV}{P:Nat→Prop}(e:EvP XP f lim a H v)(h:Evl fun k=>XP k f lim a H=some v→P k):Evl P:=by
 obtain⟨k1,h1⟩:=e
 obtain⟨k2,h2⟩:=h
 exact⟨k1+k2,fun k hk=>h2 k (by omega) (h1 k (by omega))⟩
theorem Qam{ops:List COper}{fg:List Nat}(h:VO X XP lim ops st (fun s=>Q .normal ⟨forgetT s.T fg,s.H⟩) R):V X XP lim (.region ops none fg) st Q R:=by
 rcases h with h|⟨v,⟨k0,h⟩,hr⟩
 ·exact .inl (W_region h)
 ·exact .inr ⟨v,⟨k0,fun k n hk _=>by simp only[QbQ,panR];exact h k hk⟩,hr⟩
theorem Qa9{ops:List COper}{st':St}{Q:St→Prop}(n:Nat)(h:∀k,runOps (X k) lim (ops.take n) st=some st')(k:VO X XP lim (ops.drop n) st' Q R):VO X XP lim ops st Q R:=by
 rcases k with k|⟨v,⟨k0,k⟩,hr⟩
 ·exact .inl (WO_take n h k)
 ·refine .inr ⟨v,⟨k0,fun j hj=> ?_⟩,hr⟩
  have key:∀(n:Nat) (ops:List COper) (st:St) (E:Qa0) (EP:QeP),runOps E lim (ops.take n) st=some st'→panOps E EP lim ops st=panOps E EP lim (ops.drop n) st':=by
   intro n
   induction n with
   |zero=>intro ops st E EP h;simp[runOps]at h;simp[h]
   |succ n ih=>
    intro ops st E EP h
    cases ops with
    |nil=>simp[runOps]at h;simp[h]
    |cons o os=>
     simp only[List.take_succ_cons,runOps]at h
     simp only[List.drop_succ_cons]
     rw[panOps]
     cases hs:stepOp E lim o st with
     |none=>rw[hs]at h;simp at h
     |some s=>
      rw[hs]at h
      exact ih os s E EP h
  rw[key n ops st _ _ (h j)];exact k j hj
theorem QnE{ops:List COper}{st':St}{Q:St→Prop}(h:∀k,runOps (X k) lim ops st=some st')(hq:Q st'):VO X XP lim ops st Q R:= .inl (WO_end h hq)
theorem Ev.fv{f:FuncId}{args:List AV}{H H':Qab}{v:AV}{Q:AV→Qab→Prop}(h:Ev X f lim args H v H')(hq:Q v H'):Fv X XP f lim args H Q R:= .inl (Ev.fn h hq)
theorem EvP.fv{f:FuncId}{args:List AV}{H:Qab}{v:PV}{Q:AV→Qab→Prop}(h:EvP XP f lim args H v)(hr:R v):Fv X XP f lim args H Q R:= .inr ⟨v,h,hr⟩
theorem Fv.mono{f:FuncId}{args:List AV}{H:Qab}{Q Q':AV→Qab→Prop}{R':PV→Prop}(h:Fv X XP f lim args H Q R)(hq:∀v H',Q v H'→Q' v H')(hr:∀p,R p→R' p):Fv X XP f lim args H Q' R':=by
 rcases h with h|⟨p,h,h2⟩
 ·exact .inl (h.mono hq)
 ·exact .inr ⟨p,h,hr p h2⟩
class Parts (X:Nat→Qa0) (XP:Nat→QeP):Prop where
 disj:∀k,Disj (X k) (XP k)
theorem Qay [hp:Parts X XP]{dst:Option Nat}{cons:List Nat}{f:FuncId}{args:List Opd}{os:List COper}{Q:St→Prop}(htf:Tab.tak f=false)
  (h:Fv X XP f lim (args.map (evx st.T cons)) st.H (fun v H'=>VO X XP lim os ⟨put (unflag st.T cons) dst v,H'⟩ Q R) R):VO X XP lim (⟨dst,.call f args,none,cons⟩::os) st Q R:=by
 rcases h with h|⟨p,⟨k0,h⟩,hr⟩
 ·obtain⟨v,H',⟨k1,h1⟩,h2⟩:∃v H',(∃k0,∀k,k0≤k→X k f lim (args.map (evx st.T cons)) st.H=some (v,H'))∧VO X XP lim os ⟨put (unflag st.T cons) dst v,H'⟩ Q R:=by unfold Fn Ev at h;exact h
  rcases h2 with h2|⟨p,⟨k2,h2⟩,hr⟩
  ·refine .inl (WO_call ?_)
   unfold Fn Ev
   exact⟨v,H',⟨k1,h1⟩,h2⟩
  ·exact .inr ⟨p,⟨k1+k2,fun k hk=>by
    simp only[panOps,stepOp,wanted,aop,h1 k (by omega)]
    exact h2 k (by omega)⟩,hr⟩
 ·refine .inr ⟨p,⟨k0,fun k hk=> ?_⟩,hr⟩
  simp only[panOps,stepOp,wanted,aop,hp.disj k _ _ _ _ _ (h k hk),panO,htf,Bool.false_eq_true,if_false]
  exact h k hk
theorem V_lp(I:Nat→St→Prop)(h:∀n st,I n st→V X XP lim a st (loopK I n Q) R)(n:Nat)(st:St)(hi:I n st):V X XP lim (.loop a) st Q R:=by
 have key:∀n st,I n st→(∃e s,(∃k0,∀k n m,k0≤k→k0≤n→k0≤m→Qas (fun s=>match evalC (X k) lim (fun b s=>Qas b n s) a s with
   |some (.normal,s')=>some (.inl s')
   |some r=>some (.inr r)
   |none=>none) m st=some (e,s))∧Q e s)∨∃v,(∃k0,∀k n m,k0≤k→k0≤n→k0≤m→Qas (fun s=>match evalC (X k) lim (fun b s=>Qas b n s) a s with
   |some (.normal,s')=>some (.inl s')
   |some _=>none
   |none=>match QbQ (X k) (XP k) lim (fun b s=>Qas b n s) (fun b s=>Qas b n s) a s with
    |some r=>some (.inr r)
    |none=>none) m st=some v)∧R v:=by
  intro n
  induction n using Nat.strongRecOn with
  |_ n ih=>
   intro st hi
   rcases h n st hi with h1|⟨v,⟨k0,h1⟩,hr⟩
   ·obtain⟨e,s,⟨k0,h1⟩,hq⟩:=QnD h1
    cases e with
    |normal=>
     unfold loopK at hq
     obtain⟨m,hm,hi'⟩:=hq
     rcases ih m hm s hi' with⟨e2,s2,⟨k1,h2⟩,hq2⟩|⟨v,⟨k1,h2⟩,hr⟩
     ·refine .inl ⟨e2,s2,⟨k0+k1+1,fun k n m hk hn hm=> ?_⟩,hq2⟩
      obtain⟨m,rfl⟩:∃p,m=p+1:=⟨m-1,by omega⟩
      simp only[Qas,h1 k n (by omega) (by omega)]
      exact h2 k n m (by omega) (by omega) (by omega)
     ·refine .inr ⟨v,⟨k0+k1+1,fun k n m hk hn hm=> ?_⟩,hr⟩
      obtain⟨m,rfl⟩:∃p,m=p+1:=⟨m-1,by omega⟩
      simp only[Qas,h1 k n (by omega) (by omega)]
      exact h2 k n m (by omega) (by omega) (by omega)
    |exit i=>
     unfold loopK at hq
     refine .inl ⟨.exit i,s,⟨k0+1,fun k n m hk hn hm=> ?_⟩,hq⟩
     obtain⟨m,rfl⟩:∃p,m=p+1:=⟨m-1,by omega⟩
     simp only[Qas,h1 k n (by omega) (by omega)]
    |ret=>
     unfold loopK at hq
     refine .inl ⟨.ret,s,⟨k0+1,fun k n m hk hn hm=> ?_⟩,hq⟩
     obtain⟨m,rfl⟩:∃p,m=p+1:=⟨m-1,by omega⟩
     simp only[Qas,h1 k n (by omega) (by omega)]
   ·refine .inr ⟨v,⟨k0+1,fun k n m hk hn hm=> ?_⟩,hr⟩
    obtain⟨m,rfl⟩:∃p,m=p+1:=⟨m-1,by omega⟩
    have hp:=h1 k n (by omega) (by omega)
    simp only[Qas,QbY a hp,hp]
 rcases key n st hi with⟨e,s,⟨k0,h1⟩,hq⟩|⟨v,⟨k0,h1⟩,hr⟩
 ·exact .inl (W_in ⟨e,s,⟨k0,fun k n hk hn=>by simp only[evalC];exact h1 k n n hk hn hn⟩,hq⟩)
 ·exact .inr ⟨v,⟨k0,fun k n hk hn=>by simp only[QbQ];exact h1 k n n hk hn hn⟩,hr⟩
theorem V_mid(P:St→Prop)(h1:V X XP lim a st (onlyK P) R)(h2:∀s,P s→V X XP lim b s Q R):V X XP lim (.seq a b) st Q R:=by
 refine QhT ?_
 rcases h1 with h1|h1
 ·refine .inl (h1.mono fun e s h=> ?_)
  unfold onlyK at h
  cases e with
  |normal=>exact h2 s h
  |exit i=>exact h.elim
  |ret=>exact h.elim
 ·exact .inr h1
end
section
variable {code:FuncId→Option CFn} {pf:FuncId→Bool} {prim:FuncId→Option Qba} {primP:FuncId→Option Qeh} {lim:Nat}
theorem QkR{f:FuncId}{r:Nat}{as_:List AV}{H:Qab}{Q:AV→Qab→Prop}{R:PV→Prop}{na nt:Nat}{body:CCode}{res:List CRes}(hp:prim f=none)(hct:Tab.cut f=true)(hp2:primP f=none)(hpf:pf f=true)(hc:code f=some ⟨na,nt,true,body,res⟩)(hl:(AV.ptr r 0::as_).length=na)
  (h:V (QaE code prim) (QbZ code pf prim primP) lim body ⟨(AV.ptr r 0::as_)++List.replicate (nt-(AV.ptr r 0::as_).length) (.tuple []),H⟩ (ansC res H r Q) R):Fv (QaE code prim) (QbZ code pf prim primP) f lim (.ptr r 0::as_) H Q R:=by
 rcases h with h|⟨p,⟨k0,h⟩,hr⟩
 ·exact .inl (Fn_ofC hp hct hc hl h)
 ·refine .inr ⟨p,⟨k0+1,fun k hk=> ?_⟩,hr⟩
  obtain⟨k,rfl⟩:∃p,k=p+1:=⟨k-1,by omega⟩
  simp only[QbZ,hp,hp2,hpf,hc,if_true,Qea,hl]
  have:=h k k (by omega) (by omega)
  rw[hl]at this
  exact this
theorem QlI{f:FuncId}{args:List AV}{H:Qab}{Q:AV→Qab→Prop}{R:PV→Prop}{na nt:Nat}{keep:Bool}{body:CCode}{res:List CRes}(hp:prim f=none)(hct:Tab.cut f=false)(hp2:primP f=none)(hpf:pf f=true)(hc:code f=some ⟨na,nt,keep,body,res⟩)(hl:args.length=na)
  (h:V (QaE code prim) (QbZ code pf prim primP) (if keep=true then lim else H.length) body ⟨args++List.replicate (nt-args.length) (.tuple []),H⟩ (ansK keep res H Q) R):Fv (QaE code prim) (QbZ code pf prim primP) f lim args H Q R:=by
 rcases h with h|⟨p,⟨k0,h⟩,hr⟩
 ·exact .inl (QbU hp hct hc hl h)
 ·refine .inr ⟨p,⟨k0+1,fun k hk=> ?_⟩,hr⟩
  obtain⟨k,rfl⟩:∃p,k=p+1:=⟨k-1,by omega⟩
  simp only[QbZ,hp,hp2,hpf,hc,if_true,Qea,hl]
  have:=h k k (by omega) (by omega)
  rw[hl]at this
  exact this
end
attribute [irreducible] V VO Fv EvP seqV WP
end Go.Abs
namespace Go.Abs
variable [Tab]
theorem Qe4{T:List AV}{H H':Qab}{F:(Nat→AV)→List AV}(hH:H=H')(h:T=F fun n=>T.getD n .undef):∃x,(⟨T,H⟩:St)=⟨F x,H'⟩:=⟨fun n=>T.getD n .undef,by rw[←h,hH]⟩
theorem Qgt{res:List CRes}{H:Qab}{Q:AV→Qab→Prop}{s:St}{vs:List AV}(h:Qbw s.T s.H res=some vs)(hq:Q (QbD vs) s.H):ansK true res H Q .normal s:=by
 unfold ansK;exact⟨vs,h,by rw[if_pos rfl];exact hq⟩
theorem VO_panic{X:Nat→Qa0}{XP:Nat→QeP}{lim:Nat}{dst:Option Nat}{cons:List Nat}{x:Opd}{os:List COper}{st:St}{Q:St→Prop}{R:PV→Prop}{t:TypeId}{v:D}(h:evx st.T cons x= .iface t (.d v))(hr:R (t,v)):VO X XP lim (⟨dst,.panic x,none,cons⟩::os) st Q R:=by
 unfold VO
 exact .inr ⟨(t,v),⟨0,fun k _=>by simp only[panOps,stepOp,wanted,aop,panO,h]⟩,hr⟩
theorem Fv.ev{X:Nat→Qa0}{XP:Nat→QeP}{f lim:Nat}{a:List AV}{H H':Qab}{v:AV}(h:Fv X XP f lim a H (fun v' J=>v'=v∧J=H') (fun _=>False)):Ev X f lim a H v H':=by
 unfold Fv at h
 rcases h with h|⟨_,_,h⟩
 ·exact Fn.ev h
 ·exact h.elim
theorem Fv.evP{X:Nat→Qa0}{XP:Nat→QeP}{f lim:Nat}{a:List AV}{H:Qab}{p:PV}(h:Fv X XP f lim a H (fun _ _=>False) (fun q=>q=p)):EvP XP f lim a H p:=by
 unfold Fv at h
 rcases h with h|⟨q,h1,rfl⟩
 ·unfold Fn at h
  obtain⟨_,_,_,h⟩:=h
  exact h.elim
 ·exact h1
theorem QbC{res:List CRes}{H:Qab}{r:Nat}{Q:AV→Qab→Prop}{s:St}{vs:List AV}{o:AObj}{G:Qab}{v:AV}(h:Qbw s.T s.H res=some vs)(h2:s.H=H.set r o++G)(hr:r<H.length)(ho:scO H.length o=true)(hz:freeze s.H H.length (QbD vs)=some v)(hq:Q v (H.set r o)):ansC res H r Q .ret s:=by
 unfold ansC;exact⟨vs,o,G,v,h,h2,hr,ho,hz,hq⟩
theorem QeQ{code:FuncId→Option CFn}{prim:FuncId→Option Qba}{f lim:Nat}{F:Qba}{args:List AV}{H H':Qab}{v:AV}(hp:prim f=some F)(h:F lim args H=some (v,H')):Ev (QaE code prim) f lim args H v H':=
 Fn.ev (ev_mk (k0:=1) fun k hk=>by
  obtain⟨k,rfl⟩:∃j,k=j+1:=⟨k-1,by omega⟩
  simp only[QaE,hp,h])
theorem EvP_prim{code:FuncId→Option CFn}{pf:FuncId→Bool}{prim:FuncId→Option Qba}{primP:FuncId→Option Qeh}{f lim:Nat}{F:Qeh}{args:List AV}{H:Qab}{v:PV}(hf:pf f=true)(hp:primP f=some F)(h:F lim args H=some v):EvP (QbZ code pf prim primP) f lim args H v:=by
 unfold EvP
 exact⟨1,fun k hk=>by
  obtain⟨k,rfl⟩:∃j,k=j+1:=⟨k-1,by omega⟩
  simp only[QbZ,hf,hp,h,if_true]⟩
theorem b_lss(k:IntKind)(a b:Int):QbW .lss k a b=some (.bool (decide (a<b))):=id rfl
theorem b_leq(k:IntKind)(a b:Int):QbW .leq k a b=some (.bool (decide (a≤b))):=id rfl
theorem b_geq(k:IntKind)(a b:Int):QbW .geq k a b=some (.bool (decide (a≥b))):=id rfl
theorem b_gtr(k:IntKind)(a b:Int):QbW .gtr k a b=some (.bool (decide (a>b))):=id rfl
theorem b_eql(k:IntKind)(a b:Int):QbW .eql k a b=some (.bool (a==b)):=id rfl
theorem b_neq(k:IntKind)(a b:Int):QbW .neq k a b=some (.bool (a !=b)):=id rfl
theorem b_add(k:IntKind)(a b:Int):QbW .add k a b=some (.int k (k.wrap (a+b))):=id rfl
theorem b_sub(k:IntKind)(a b:Int):QbW .sub k a b=some (.int k (k.wrap (a-b))):=id rfl
theorem b_mul(k:IntKind)(a b:Int):QbW .mul k a b=some (.int k (k.wrap (a*b))):=id rfl
theorem QmV(E:Qa0)(lim:Nat)(H:Qab)(ρ:Opd→AV)(x:Opd):aop E lim H ρ (.len .str x)=match ρ x with
  |.d (.str s)=>some (intD s.length,H)
  |_=>none:=by
 simp only[aop]
 generalize ρ x=v
 cases v with
 |d y=>cases y<;>rfl
 |_=>rfl
theorem len_sl(E:Qa0)(lim:Nat)(H:Qab)(ρ:Opd→AV)(x:Opd):aop E lim H ρ (.len .sl x)=match ρ x with
  |.oslice _ _ n _ _=>some (intD n,H)
  |v=>v.elems.map fun xs=>(intD xs.length,H):=by
 simp only[aop]
 generalize ρ x=v
 cases v<;>rfl
theorem QmW(E:Qa0)(lim:Nat)(H:Qab)(ρ:Opd→AV)(x:Opd):aop E lim H ρ (.len .map x)=match ρ x with
  |.nilmap=>some (intD 0,H)
  |.mapr r=>match H[r]? with
   |some (.map _ es)=>some (intD es.length,H)
   |_=>none
  |_=>none:=by
 simp only[aop]
 generalize ρ x=v
 cases v<;>rfl
theorem uf0(x:D):(AV.d x).unf= .d x:=rfl
theorem uf1(xs:List D):(AV.fslice xs).unf= .d (.slice xs):=rfl
theorem uf2(r o:Nat):(AV.ptr r o).unf= .ptr r o:=rfl
theorem uf3(cs:List AV):(AV.agg cs).unf= .agg cs:=rfl
theorem uf4(cs:List AV):(AV.tuple cs).unf= .tuple cs:=rfl
theorem uf5(cs:List D):(AV.pref cs).unf= .pref cs:=rfl
theorem uf6(f:_root_.Go.Fn)(cs:List AV):(AV.func f cs).unf= .func f cs:=rfl
theorem uf7(a b c d e:Nat):(AV.oslice a b c d e).unf= .oslice a b c d e:=rfl
theorem uf8:AV.undef.unf= .undef:=rfl
theorem uf9(r:Nat):(AV.mapr r).unf= .mapr r:=rfl
theorem Qiu(w a:Nat):BitVec.ofInt w (a:Int)=BitVec.ofNat w a:=by
 apply BitVec.eq_of_toNat_eq
 simp[BitVec.toNat_ofInt]
theorem w64n(a:Nat)(h:a<9223372036854775808):IntKind.i64.wrap (a:Int)=a:=by
 have h1:((a:Int)% 2^64)=a:=Int.emod_eq_of_lt (by omega) (by omega)
 have h2:¬((a:Int)≥2^(64-1)):=by omega
 simp only[IntKind.wrap,IntKind.signed,IntKind.bits,h1,h2,decide_false,Bool.and_false,Bool.false_eq_true,if_false]
theorem u8w(a:Nat)(h:a<256):IntKind.u8.wrap (a:Int)=a:=by
 have h1:((a:Int)% 2^8)=a:=Int.emod_eq_of_lt (by omega) (by omega)
 simp only[IntKind.wrap,IntKind.signed,IntKind.bits,h1,Bool.false_and,Bool.false_eq_true,if_false]
theorem w32{n:Int}(h: -2147483648≤n)(k:n≤2147483647):IntKind.i32.wrap n=n:=by
 unfold IntKind.wrap
 simp only[IntKind.signed,IntKind.bits,Bool.true_and]
 split
 ·rename_i hx;simp at hx;omega
 ·rename_i hx;simp at hx;omega
end Go.Abs
set_option maxRecDepth 100000
namespace Go.Abs
variable [Tab]
theorem zz:((((((((type_of% @srcC.eq_1)∧(type_of% @srcC.eq_2))∧((type_of% @AV.growable.eq_1)∧(type_of% @AV.growable.eq_2)))∧(((type_of% @AV.growable.eq_3)∧(type_of% @AV.owned.eq_1))∧((type_of% @AV.owned.eq_2)∧(type_of% @evalC.eq_1))))∧((((type_of% @evalC.eq_2)∧(type_of% @evalC.eq_3))∧((type_of% @evalC.eq_4)∧(type_of% @evalC.eq_5)))∧(((type_of% @evalC.eq_6)∧(type_of% @evalC.eq_7))∧((type_of% @evalC.eq_8)∧(type_of% @evalR.eq_1)))))∧(((((type_of% @evalR.eq_2)∧(type_of% @runOps.eq_1))∧((type_of% @runOps.eq_2)∧(type_of% @stepOp.eq_1)))∧(((type_of% @wanted.eq_1)∧(type_of% @wanted.eq_2))∧((type_of% @aop.eq_1)∧(type_of% @aop.eq_2))))∧((((type_of% @aop.eq_3)∧(type_of% @aop.eq_4))∧((type_of% @aop.eq_5)∧(type_of% @aop.eq_6)))∧(((type_of% @aop.eq_7)∧(type_of% @aop.eq_8))∧((type_of% @aop.eq_9)∧((type_of% @aop.eq_10)∧(type_of% @aop.eq_11)))))))∧((((((type_of% @aop.eq_12)∧(type_of% @aop.eq_13))∧((type_of% @aop.eq_14)∧(type_of% @aop.eq_15)))∧(((type_of% @aop.eq_16)∧(type_of% @aop.eq_17))∧((type_of% @aop.eq_18)∧(type_of% @aop.eq_19))))∧((((type_of% @aop.eq_20)∧(type_of% @aop.eq_21))∧((type_of% @aop.eq_22)∧(type_of% @aop.eq_23)))∧(((type_of% @aop.eq_24)∧(type_of% @aop.eq_25))∧((type_of% @aop.eq_26)∧(type_of% @aop.eq_27)))))∧(((((type_of% @aop.eq_28)∧(type_of% @aop.eq_29))∧((type_of% @aop.eq_30)∧(type_of% @aop.eq_31)))∧(((type_of% @aop.eq_32)∧(type_of% @aop.eq_33))∧((type_of% @aop.eq_34)∧(type_of% @aop.eq_35))))∧((((type_of% @aop.eq_36)∧(type_of% @aop.eq_37))∧((type_of% @aop.eq_38)∧(type_of% @aop.eq_45)))∧(((type_of% @aop.eq_46)∧(type_of% @aop.eq_47))∧((type_of% @aop.eq_48)∧((type_of% @aop.eq_49)∧(type_of% @aop.eq_50))))))))∧(((((((type_of% @aop.eq_51)∧(type_of% @aop.eq_52))∧((type_of% @aop.eq_53)∧(type_of% @evx.eq_1)))∧(((type_of% @evx.eq_2)∧(type_of% @put.eq_1))∧((type_of% @put.eq_2)∧(type_of% @unflag.eq_1))))∧((((type_of% @unflag.eq_2)∧(type_of% @binV.eq_1))∧((type_of% @binV.eq_2)∧(type_of% @binV.eq_3)))∧(((type_of% @binV.eq_4)∧(type_of% @binV.eq_5))∧((type_of% @binV.eq_6)∧(type_of% @binV.eq_7)))))∧(((((type_of% @binV.eq_8)∧(type_of% @binV.eq_9))∧((type_of% @binV.eq_10)∧(type_of% @binV.eq_11)))∧(((type_of% @binV.eq_12)∧(type_of% @nilEq.eq_1))∧((type_of% @nilEq.eq_2)∧(type_of% @nilEq.eq_3))))∧((((type_of% @nilEq.eq_4)∧(type_of% @nilEq.eq_5))∧((type_of% @nilEq.eq_6)∧(type_of% @nilEq.eq_7)))∧(((type_of% @nilEq.eq_8)∧(type_of% @nilEq.eq_9))∧((type_of% @nilEq.eq_10)∧((type_of% @nilEq.eq_11)∧(type_of% @nilEq.eq_12)))))))∧((((((type_of% @nilEq.eq_13)∧(type_of% @nilEq.eq_14))∧((type_of% @nilEq.eq_15)∧(type_of% @isShift.eq_1)))∧(((type_of% @isShift.eq_2)∧(type_of% @isShift.eq_3))∧((type_of% @binStr.eq_1)∧(type_of% @binStr.eq_2))))∧((((type_of% @binStr.eq_3)∧(type_of% @binStr.eq_4))∧((type_of% @binStr.eq_5)∧(type_of% @binStr.eq_6)))∧(((type_of% @binStr.eq_7)∧(type_of% @binStr.eq_8))∧((type_of% @unV.eq_1)∧(type_of% @unV.eq_2)))))∧(((((type_of% @unV.eq_3)∧(type_of% @unV.eq_4))∧((type_of% @AV.elems.eq_1)∧(type_of% @AV.elems.eq_2)))∧(((type_of% @AV.elems.eq_3)∧(type_of% @AV.elems.eq_4))∧((type_of% @AV.int?.eq_1)∧(type_of% @AV.int?.eq_2))))∧((((type_of% @AV.toD.eq_1)∧(type_of% @AV.toD.eq_2))∧((type_of% @AV.toD.eq_3)∧(type_of% @AV.toD.eq_4)))∧(((type_of% @AV.toD.eq_5)∧(type_of% @AV.toDs.eq_1))∧((type_of% @AV.toDs.eq_2)∧((type_of% @AV.mkAgg.eq_1)∧(type_of% @AV.pures.eq_1)))))))))∧((((((((type_of% @AV.pures.eq_2)∧(type_of% @AV.pures.eq_3))∧((type_of% @AV.cells.eq_1)∧(type_of% @AV.cells.eq_2)))∧(((type_of% @AV.cells.eq_3)∧(type_of% @D.cells.eq_1))∧((type_of% @D.cells.eq_2)∧(type_of% @AV.isCell.eq_1))))∧((((type_of% @AV.isCell.eq_2)∧(type_of% @AV.isCell.eq_3))∧((type_of% @AV.isCell.eq_4)∧(type_of% @AV.isCell.eq_5)))∧(((type_of% @AV.isCell.eq_6)∧(type_of% @D.isCell.eq_1))∧((type_of% @D.isCell.eq_2)∧(type_of% @readCells.eq_1)))))∧(((((type_of% @readD.eq_1)∧(type_of% @optInt.eq_1))∧((type_of% @optInt.eq_2)∧(type_of% @fill.eq_1)))∧(((type_of% @fill.eq_2)∧(type_of% @splice.eq_1))∧((type_of% @srcOf.eq_1)∧(type_of% @srcOf.eq_2))))∧((((type_of% @srcOf.eq_3)∧(type_of% @srcOf.eq_4))∧((type_of% @srcOf.eq_5)∧(type_of% @srcOf.eq_6)))∧(((type_of% @List.contains.eq_1.{0})∧(type_of% @List.elem.eq_1.{0}))∧((type_of% @List.elem.eq_2.{0})∧((type_of% @Option.map.eq_1.{0,0})∧(type_of% @Option.map.eq_2.{0,0})))))))∧((((((type_of% @intD.eq_1)∧(type_of% @boolD.eq_1))∧((type_of% @bD.eq_1)∧(type_of% @forgetT.eq_1)))∧(((type_of% @forgetT.eq_2)∧(type_of% @chunks.eq_1))∧((type_of% @chunks.eq_2)∧(type_of% @eq_self.{1}))))∧((((type_of% @Qci)∧(type_of% @List.getD_cons_succ.{0}))∧((type_of% @List.getD_cons_zero.{0})∧(type_of% @List.set_cons_succ.{0})))∧(((type_of% @List.set_cons_zero.{0})∧(type_of% @List.getElem?_cons_succ.{0}))∧((type_of% @List.getElem?_cons_zero.{0})∧(type_of% @List.map_cons.{0,0})))))∧(((((type_of% @List.map_nil.{0,0})∧(type_of% @List.take_succ_cons.{0}))∧((type_of% @List.take_zero.{0})∧(type_of% @List.drop_succ_cons.{0})))∧(((type_of% @List.drop_zero.{0})∧(type_of% @List.length_cons.{0}))∧((type_of% @List.length_nil.{0})∧(type_of% @List.length_append.{0}))))∧((((type_of% @List.length_set.{0})∧(type_of% @List.all_cons.{0}))∧((type_of% @List.all_nil.{0})∧(type_of% @List.nil_append.{0})))∧(((type_of% @List.cons_append.{0})∧(type_of% @List.append_nil.{0}))∧((type_of% @Bool.false_eq_true)∧((type_of% @Bool.true_eq_false)∧(type_of% @Nat.add_zero))))))))∧(((((((type_of% @Nat.zero_add)∧(type_of% @Nat.zero_mul))∧((type_of% @Nat.mul_zero)∧(type_of% @beq_self_eq_true.{0})))∧(((type_of% @bne_self_eq_false.{0})∧(type_of% @Bool.not_false))∧((type_of% @Bool.not_true)∧(type_of% @Bool.and_true))))∧((((type_of% @Bool.and_self)∧(type_of% @Bool.and_false))∧((type_of% @Bool.false_and)∧(type_of% @Bool.true_and)))∧(((type_of% @Bool.or_true)∧(type_of% @Bool.or_false))∧((type_of% @Bool.true_or)∧(type_of% @Bool.false_or)))))∧(((((type_of% @decide_true)∧(type_of% @decide_false))∧((type_of% @Bool.true_beq)∧(type_of% @Bool.false_beq)))∧(((type_of% @Qdv)∧(type_of% @Qka))∧((type_of% @and_self)∧(type_of% @and_true))))∧((((type_of% @true_and)∧(type_of% @Nat.le_refl))∧((type_of% @Int.toNat_natCast)∧(type_of% @Nat.min_self)))∧(((type_of% @dite_true.{1})∧(type_of% @QgZ))∧((type_of% @nat0)∧((type_of% @Int.le_refl)∧(type_of% @Int.toNat_zero)))))))∧((((((type_of% @Qbs)∧(type_of% @Option.map_some.{0,0}))∧((type_of% @Option.map_none.{0,0})∧(type_of% @List.getElem?_map.{0,0})))∧(((type_of% @List.flatten_cons.{0})∧(type_of% @List.flatten_nil.{0}))∧((type_of% @QeD)∧(type_of% @Qf5))))∧((((type_of% @Qaz)∧(type_of% @if_true.{1}))∧((type_of% @if_false.{1})∧(type_of% @b_lss)))∧(((type_of% @b_leq)∧(type_of% @b_geq))∧((type_of% @b_gtr)∧(type_of% @b_eql)))))∧(((((type_of% @b_neq)∧(type_of% @b_add))∧((type_of% @b_sub)∧(type_of% @b_mul)))∧(((type_of% @QmV)∧(type_of% @len_sl))∧((type_of% @QmW)∧(type_of% @uf0))))∧((((type_of% @uf1)∧(type_of% @uf2))∧((type_of% @uf3)∧(type_of% @uf4)))∧(((type_of% @uf5)∧(type_of% @uf6))∧((type_of% @uf7)∧((type_of% @uf8)∧(type_of% @uf9))))))))):=⟨⟨⟨⟨⟨⟨⟨⟨@srcC.eq_1,@srcC.eq_2⟩,⟨@AV.growable.eq_1,@AV.growable.eq_2⟩⟩,⟨⟨@AV.growable.eq_3,@AV.owned.eq_1⟩,⟨@AV.owned.eq_2,@evalC.eq_1⟩⟩⟩,⟨⟨⟨@evalC.eq_2,@evalC.eq_3⟩,⟨@evalC.eq_4,@evalC.eq_5⟩⟩,⟨⟨@evalC.eq_6,@evalC.eq_7⟩,⟨@evalC.eq_8,@evalR.eq_1⟩⟩⟩⟩,⟨⟨⟨⟨@evalR.eq_2,@runOps.eq_1⟩,⟨@runOps.eq_2,@stepOp.eq_1⟩⟩,⟨⟨@wanted.eq_1,@wanted.eq_2⟩,⟨@aop.eq_1,@aop.eq_2⟩⟩⟩,⟨⟨⟨@aop.eq_3,@aop.eq_4⟩,⟨@aop.eq_5,@aop.eq_6⟩⟩,⟨⟨@aop.eq_7,@aop.eq_8⟩,⟨@aop.eq_9,⟨@aop.eq_10,@aop.eq_11⟩⟩⟩⟩⟩⟩,⟨⟨⟨⟨⟨@aop.eq_12,@aop.eq_13⟩,⟨@aop.eq_14,@aop.eq_15⟩⟩,⟨⟨@aop.eq_16,@aop.eq_17⟩,⟨@aop.eq_18,@aop.eq_19⟩⟩⟩,⟨⟨⟨@aop.eq_20,@aop.eq_21⟩,⟨@aop.eq_22,@aop.eq_23⟩⟩,⟨⟨@aop.eq_24,@aop.eq_25⟩,⟨@aop.eq_26,@aop.eq_27⟩⟩⟩⟩,⟨⟨⟨⟨@aop.eq_28,@aop.eq_29⟩,⟨@aop.eq_30,@aop.eq_31⟩⟩,⟨⟨@aop.eq_32,@aop.eq_33⟩,⟨@aop.eq_34,@aop.eq_35⟩⟩⟩,⟨⟨⟨@aop.eq_36,@aop.eq_37⟩,⟨@aop.eq_38,@aop.eq_45⟩⟩,⟨⟨@aop.eq_46,@aop.eq_47⟩,⟨@aop.eq_48,⟨@aop.eq_49,@aop.eq_50⟩⟩⟩⟩⟩⟩⟩,⟨⟨⟨⟨⟨⟨@aop.eq_51,@aop.eq_52⟩,⟨@aop.eq_53,@evx.eq_1⟩⟩,⟨⟨@evx.eq_2,@put.eq_1⟩,⟨@put.eq_2,@unflag.eq_1⟩⟩⟩,⟨⟨⟨@unflag.eq_2,@binV.eq_1⟩,⟨@binV.eq_2,@binV.eq_3⟩⟩,⟨⟨@binV.eq_4,@binV.eq_5⟩,⟨@binV.eq_6,@binV.eq_7⟩⟩⟩⟩,⟨⟨⟨⟨@binV.eq_8,@binV.eq_9⟩,⟨@binV.eq_10,@binV.eq_11⟩⟩,⟨⟨@binV.eq_12,@nilEq.eq_1⟩,⟨@nilEq.eq_2,@nilEq.eq_3⟩⟩⟩,⟨⟨⟨@nilEq.eq_4,@nilEq.eq_5⟩,⟨@nilEq.eq_6,@nilEq.eq_7⟩⟩,⟨⟨@nilEq.eq_8,@nilEq.eq_9⟩,⟨@nilEq.eq_10,⟨@nilEq.eq_11,@nilEq.eq_12⟩⟩⟩⟩⟩⟩,⟨⟨⟨⟨⟨@nilEq.eq_13,@nilEq.eq_14⟩,⟨@nilEq.eq_15,@isShift.eq_1⟩⟩,⟨⟨@isShift.eq_2,@isShift.eq_3⟩,⟨@binStr.eq_1,@binStr.eq_2⟩⟩⟩,⟨⟨⟨@binStr.eq_3,@binStr.eq_4⟩,⟨@binStr.eq_5,@binStr.eq_6⟩⟩,⟨⟨@binStr.eq_7,@binStr.eq_8⟩,⟨@unV.eq_1,@unV.eq_2⟩⟩⟩⟩,⟨⟨⟨⟨@unV.eq_3,@unV.eq_4⟩,⟨@AV.elems.eq_1,@AV.elems.eq_2⟩⟩,⟨⟨@AV.elems.eq_3,@AV.elems.eq_4⟩,⟨@AV.int?.eq_1,@AV.int?.eq_2⟩⟩⟩,⟨⟨⟨@AV.toD.eq_1,@AV.toD.eq_2⟩,⟨@AV.toD.eq_3,@AV.toD.eq_4⟩⟩,⟨⟨@AV.toD.eq_5,@AV.toDs.eq_1⟩,⟨@AV.toDs.eq_2,⟨@AV.mkAgg.eq_1,@AV.pures.eq_1⟩⟩⟩⟩⟩⟩⟩⟩,⟨⟨⟨⟨⟨⟨⟨@AV.pures.eq_2,@AV.pures.eq_3⟩,⟨@AV.cells.eq_1,@AV.cells.eq_2⟩⟩,⟨⟨@AV.cells.eq_3,@D.cells.eq_1⟩,⟨@D.cells.eq_2,@AV.isCell.eq_1⟩⟩⟩,⟨⟨⟨@AV.isCell.eq_2,@AV.isCell.eq_3⟩,⟨@AV.isCell.eq_4,@AV.isCell.eq_5⟩⟩,⟨⟨@AV.isCell.eq_6,@D.isCell.eq_1⟩,⟨@D.isCell.eq_2,@readCells.eq_1⟩⟩⟩⟩,⟨⟨⟨⟨@readD.eq_1,@optInt.eq_1⟩,⟨@optInt.eq_2,@fill.eq_1⟩⟩,⟨⟨@fill.eq_2,@splice.eq_1⟩,⟨@srcOf.eq_1,@srcOf.eq_2⟩⟩⟩,⟨⟨⟨@srcOf.eq_3,@srcOf.eq_4⟩,⟨@srcOf.eq_5,@srcOf.eq_6⟩⟩,⟨⟨@List.contains.eq_1.{0},@List.elem.eq_1.{0}⟩,⟨@List.elem.eq_2.{0},⟨@Option.map.eq_1.{0,0},@Option.map.eq_2.{0,0}⟩⟩⟩⟩⟩⟩,⟨⟨⟨⟨⟨@intD.eq_1,@boolD.eq_1⟩,⟨@bD.eq_1,@forgetT.eq_1⟩⟩,⟨⟨@forgetT.eq_2,@chunks.eq_1⟩,⟨@chunks.eq_2,@eq_self.{1}⟩⟩⟩,⟨⟨⟨@Qci,@List.getD_cons_succ.{0}⟩,⟨@List.getD_cons_zero.{0},@List.set_cons_succ.{0}⟩⟩,⟨⟨@List.set_cons_zero.{0},@List.getElem?_cons_succ.{0}⟩,⟨@List.getElem?_cons_zero.{0},@List.map_cons.{0,0}⟩⟩⟩⟩,⟨⟨⟨⟨@List.map_nil.{0,0},@List.take_succ_cons.{0}⟩,⟨@List.take_zero.{0},@List.drop_succ_cons.{0}⟩⟩,⟨⟨@List.drop_zero.{0},@List.length_cons.{0}⟩,⟨@List.length_nil.{0},@List.length_append.{0}⟩⟩⟩,⟨⟨⟨@List.length_set.{0},@List.all_cons.{0}⟩,⟨@List.all_nil.{0},@List.nil_append.{0}⟩⟩,⟨⟨@List.cons_append.{0},@List.append_nil.{0}⟩,⟨@Bool.false_eq_true,⟨@Bool.true_eq_false,@Nat.add_zero⟩⟩⟩⟩⟩⟩⟩,⟨⟨⟨⟨⟨⟨@Nat.zero_add,@Nat.zero_mul⟩,⟨@Nat.mul_zero,@beq_self_eq_true.{0}⟩⟩,⟨⟨@bne_self_eq_false.{0},@Bool.not_false⟩,⟨@Bool.not_true,@Bool.and_true⟩⟩⟩,⟨⟨⟨@Bool.and_self,@Bool.and_false⟩,⟨@Bool.false_and,@Bool.true_and⟩⟩,⟨⟨@Bool.or_true,@Bool.or_false⟩,⟨@Bool.true_or,@Bool.false_or⟩⟩⟩⟩,⟨⟨⟨⟨@decide_true,@decide_false⟩,⟨@Bool.true_beq,@Bool.false_beq⟩⟩,⟨⟨@Qdv,@Qka⟩,⟨@and_self,@and_true⟩⟩⟩,⟨⟨⟨@true_and,@Nat.le_refl⟩,⟨@Int.toNat_natCast,@Nat.min_self⟩⟩,⟨⟨@dite_true.{1},@QgZ⟩,⟨@nat0,⟨@Int.le_refl,@Int.toNat_zero⟩⟩⟩⟩⟩⟩,⟨⟨⟨⟨⟨@Qbs,@Option.map_some.{0,0}⟩,⟨@Option.map_none.{0,0},@List.getElem?_map.{0,0}⟩⟩,⟨⟨@List.flatten_cons.{0},@List.flatten_nil.{0}⟩,⟨@QeD,@Qf5⟩⟩⟩,⟨⟨⟨@Qaz,@if_true.{1}⟩,⟨@if_false.{1},@b_lss⟩⟩,⟨⟨@b_leq,@b_geq⟩,⟨@b_gtr,@b_eql⟩⟩⟩⟩,⟨⟨⟨⟨@b_neq,@b_add⟩,⟨@b_sub,@b_mul⟩⟩,⟨⟨@QmV,@len_sl⟩,⟨@QmW,@uf0⟩⟩⟩,⟨⟨⟨@uf1,@uf2⟩,⟨@uf3,@uf4⟩⟩,⟨⟨@uf5,@uf6⟩,⟨@uf7,⟨@uf8,@uf9⟩⟩⟩⟩⟩⟩⟩⟩⟩
theorem zd:(((((type_of% @drawOK.eq_1)∧(type_of% @chainOK.eq_1))∧((type_of% @chainOK.eq_2)∧((type_of% @chainOK.eq_3)∧(type_of% @thin.eq_1))))∧(((type_of% @inertAt.eq_1)∧(type_of% @inertRec.eq_1))∧((type_of% @inertRec.eq_2)∧((type_of% @inertRec.eq_3)∧(type_of% @traceOps.eq_1)))))∧((((type_of% @traceOps.eq_2)∧(type_of% @stepRec.eq_1))∧((type_of% @explore.eq_1)∧((type_of% @explore.eq_2)∧(type_of% @runAt.eq_1))))∧(((type_of% @mayStand.eq_1)∧(type_of% @panR.eq_1))∧((type_of% @panR.eq_2)∧((type_of% @panO.eq_1)∧(type_of% @panOps.eq_1))))))∧(((((type_of% @panOps.eq_2)∧(type_of% @traceP.eq_1))∧((type_of% @traceP.eq_2)∧((type_of% @exploreP.eq_1)∧(type_of% @exploreP.eq_2))))∧(((type_of% @panAt.eq_1)∧(type_of% @pvBeq.eq_1))∧((type_of% @COper.may.eq_1)∧((type_of% @List.filter_cons.{0})∧(type_of% @List.filter_nil.{0})))))∧((((type_of% @AV.beq_self)∧(type_of% @QbR))∧((type_of% @Option.isSome_some.{0})∧((type_of% @List.contains_cons.{0})∧(type_of% @List.contains_nil.{0}))))∧(((type_of% @Prod.mk.injEq.{0,0})∧(type_of% @Qkj))∧((type_of% @D.beq_self)∧((type_of% @List.any_cons.{0})∧(type_of% @List.any_nil.{0})))))):=⟨⟨⟨⟨⟨@drawOK.eq_1,@chainOK.eq_1⟩,⟨@chainOK.eq_2,⟨@chainOK.eq_3,@thin.eq_1⟩⟩⟩,⟨⟨@inertAt.eq_1,@inertRec.eq_1⟩,⟨@inertRec.eq_2,⟨@inertRec.eq_3,@traceOps.eq_1⟩⟩⟩⟩,⟨⟨⟨@traceOps.eq_2,@stepRec.eq_1⟩,⟨@explore.eq_1,⟨@explore.eq_2,@runAt.eq_1⟩⟩⟩,⟨⟨@mayStand.eq_1,@panR.eq_1⟩,⟨@panR.eq_2,⟨@panO.eq_1,@panOps.eq_1⟩⟩⟩⟩⟩,⟨⟨⟨⟨@panOps.eq_2,@traceP.eq_1⟩,⟨@traceP.eq_2,⟨@exploreP.eq_1,@exploreP.eq_2⟩⟩⟩,⟨⟨@panAt.eq_1,@pvBeq.eq_1⟩,⟨@COper.may.eq_1,⟨@List.filter_cons.{0},@List.filter_nil.{0}⟩⟩⟩⟩,⟨⟨⟨@AV.beq_self,@QbR⟩,⟨@Option.isSome_some.{0},⟨@List.contains_cons.{0},@List.contains_nil.{0}⟩⟩⟩,⟨⟨@Prod.mk.injEq.{0,0},@Qkj⟩,⟨@D.beq_self,⟨@List.any_cons.{0},@List.any_nil.{0}⟩⟩⟩⟩⟩⟩
theorem zp:(((((type_of% @seqK.eq_1)∧(type_of% @seqK.eq_2))∧((type_of% @seqK.eq_3)∧((type_of% @blockK.eq_1)∧(type_of% @blockK.eq_2))))∧(((type_of% @blockK.eq_3)∧((type_of% @loopK.eq_1)∧(type_of% @loopK.eq_2)))∧((type_of% @loopK.eq_3)∧((type_of% @onlyK.eq_1)∧(type_of% @onlyK.eq_2)))))∧((((type_of% @onlyK.eq_3)∧(type_of% @seqV.eq_1))∧((type_of% @seqV.eq_2)∧((type_of% @seqV.eq_3)∧(type_of% @forgetT.eq_1))))∧(((type_of% @forgetT.eq_2)∧((type_of% @put.eq_1)∧(type_of% @put.eq_2)))∧((type_of% @unflag.eq_1)∧((type_of% @unflag.eq_2)∧(type_of% @evx.eq_1))))))∧(((((type_of% @evx.eq_2)∧(type_of% @List.contains.eq_1.{0}))∧((type_of% @List.elem.eq_1.{0})∧((type_of% @List.elem.eq_2.{0})∧(type_of% @boolD.eq_1))))∧(((type_of% @List.set_cons_succ.{0})∧((type_of% @List.set_cons_zero.{0})∧(type_of% @List.getD_cons_succ.{0})))∧((type_of% @List.getD_cons_zero.{0})∧((type_of% @uf0)∧(type_of% @uf1)))))∧((((type_of% @uf2)∧((type_of% @uf3)∧(type_of% @uf4)))∧((type_of% @uf5)∧((type_of% @uf6)∧(type_of% @uf7))))∧(((type_of% @uf8)∧((type_of% @uf9)∧(type_of% @if_true.{1})))∧((type_of% @if_false.{1})∧((type_of% @Bool.false_eq_true)∧(type_of% @eq_self.{1})))))):=⟨⟨⟨⟨⟨@seqK.eq_1,@seqK.eq_2⟩,⟨@seqK.eq_3,⟨@blockK.eq_1,@blockK.eq_2⟩⟩⟩,⟨⟨@blockK.eq_3,⟨@loopK.eq_1,@loopK.eq_2⟩⟩,⟨@loopK.eq_3,⟨@onlyK.eq_1,@onlyK.eq_2⟩⟩⟩⟩,⟨⟨⟨@onlyK.eq_3,@seqV.eq_1⟩,⟨@seqV.eq_2,⟨@seqV.eq_3,@forgetT.eq_1⟩⟩⟩,⟨⟨@forgetT.eq_2,⟨@put.eq_1,@put.eq_2⟩⟩,⟨@unflag.eq_1,⟨@unflag.eq_2,@evx.eq_1⟩⟩⟩⟩⟩,⟨⟨⟨⟨@evx.eq_2,@List.contains.eq_1.{0}⟩,⟨@List.elem.eq_1.{0},⟨@List.elem.eq_2.{0},@boolD.eq_1⟩⟩⟩,⟨⟨@List.set_cons_succ.{0},⟨@List.set_cons_zero.{0},@List.getD_cons_succ.{0}⟩⟩,⟨@List.getD_cons_zero.{0},⟨@uf0,@uf1⟩⟩⟩⟩,⟨⟨⟨@uf2,⟨@uf3,@uf4⟩⟩,⟨@uf5,⟨@uf6,@uf7⟩⟩⟩,⟨⟨@uf8,⟨@uf9,@if_true.{1}⟩⟩,⟨@if_false.{1},⟨@Bool.false_eq_true,@eq_self.{1}⟩⟩⟩⟩⟩⟩
end Go.Abs
namespace Go.Abs
variable [Tab] {X:Nat→Qa0} {XP:Nat→QeP} {f lim:Nat} {a:List AV} {H:Qab} {ε α:Type} {P:ε→PV}
theorem Fv.okP{x:Except ε α}{V:α→AV}{G:α→Qab}{q:α}
  (h:Fv X XP f lim a H (fun v H'=>∃q,x= .ok q∧v=V q∧H'=G q) (fun z=>∃e,x= .error e∧z=P e))(hx:x= .ok q):Ev X f lim a H (V q) (G q):=by
 unfold Fv at h
 rcases h with h|⟨z,_,e,h,_⟩
 ·unfold Fn at h
  obtain⟨v,H',h1,q',h2,rfl,rfl⟩:=h
  rw[hx]at h2;cases h2;exact h1
 ·rw[hx]at h;cases h
theorem Fv.noP{x:Except ε α}{V:α→AV}{G:α→Qab}{e:ε}
  (h:Fv X XP f lim a H (fun v H'=>∃q,x= .ok q∧v=V q∧H'=G q) (fun z=>∃e,x= .error e∧z=P e))(hx:x= .error e):EvP XP f lim a H (P e):=by
 unfold Fv at h
 rcases h with h|⟨z,h1,e',h,rfl⟩
 ·unfold Fn at h
  obtain⟨v,H',h1,q',h2,rfl,rfl⟩:=h
  rw[hx]at h2;cases h2
 ·rw[hx]at h;cases h;exact h1
theorem Fv.pair{β:Type}{x:Except ε (α×β)}{V:α→AV}{G:β→Qab}
  (h:Fv X XP f lim a H (fun v H'=>∃j q,x= .ok (j,q)∧v=V j∧H'=G q) (fun z=>∃e,x= .error e∧z=P e)):
  Fv X XP f lim a H (fun v H'=>∃y,x= .ok y∧v=V y.1∧H'=G y.2) (fun z=>∃e,x= .error e∧z=P e):=
 h.mono (fun _ _ ⟨j,q,h1,h2,h3⟩=>⟨(j,q),h1,h2,h3⟩) fun _ h=>h
theorem Fv.okJ{β:Type}{x:Except ε (α×β)}{V:α→AV}{G:β→Qab}{j:α}{q:β}
 (h:Fv X XP f lim a H (fun v H'=>∃j q,x= .ok (j,q)∧v=V j∧H'=G q) (fun z=>∃e,x= .error e∧z=P e))(hx:x= .ok (j,q)):Ev X f lim a H (V j) (G q):=h.pair.okP hx
theorem Fv.noJ{β:Type}{x:Except ε (α×β)}{V:α→AV}{G:β→Qab}{e:ε}
 (h:Fv X XP f lim a H (fun v H'=>∃j q,x= .ok (j,q)∧v=V j∧H'=G q) (fun z=>∃e,x= .error e∧z=P e))(hx:x= .error e):EvP XP f lim a H (P e):=h.pair.noP hx
theorem Evl.panN [hp:Parts X XP]{v:PV}{P:Nat→Prop}(e:EvP XP f lim a H v)(h:Evl fun k=>(XP k f lim a H=some v∧X k f lim a H=none)→P k):Evl P:=
 Evl.pan e (by
  obtain⟨k0,h⟩:=h
  exact⟨k0,fun k hk h1=>h k hk ⟨h1,hp.disj k _ _ _ _ _ h1⟩⟩)
end Go.Abs
namespace Go.Abs
open Go.RowKit
section
variable [Tab] [Dfr] {P:Program} {tk:FuncId→Nat→Bool} {pf:FuncId→Bool} {X:Nat→Qa0} {XP:Nat→QeP} {g:Gh} {w:World} {st:St} {a:Act} {Q:Exit→Act→World→Prop} {lim:Nat}
structure EnvS (P:Program) (pf:FuncId→Bool) (X:Nat→Qa0) (XP:Nat→QeP):Prop where
 mx:P.follows .mixedOrders=true
 e:∀k,Qcn P (X k)
 p:∀k f,PSound P f (XP k f)
 pf:∀k f lim a H v,XP k f lim a H=some v→pf f=true
theorem Qei(hS:EnvS P pf X XP){kp:List Nat}{c:Code}{cc:CCode}(hc:Qac P tk kp c=some cc)(hk:panCk pf cc=true)(hinv:Inv g st a w)(hlim:lim≤st.H.length){Qa:AExit→St→Prop}{Ra:PV→Prop}
  (hV:V X XP lim cc st Qa Ra)(hq:∀x st' g' a' w',Qa x st'→WF g w g' w'→Inv g' st' a' w'→Ext lim st.H st'.H→Q x.exit' a' w')(hr:∀p,Ra p→PanQ g w lim st.H p Q):c.wp P Q a w:=by
 unfold V at hV
 rcases hV with h|h
 ·obtain⟨e,st',⟨k0,h⟩,hqa⟩:=QnD h
  exact Qao (hS.e k0) (QeI hS.mx (hS.e k0)) (fun body s r h=>⟨k0,h⟩) c cc hc hinv hlim (h k0 k0 (Nat.le_refl _) (Nat.le_refl _)) fun g' a' w' h1 h2 h3=>hq e st' g' a' w' hqa h1 h2 h3
 ·unfold WP at h
  obtain⟨p,⟨k0,h⟩,hra⟩:=h
  exact QaN (hS.e k0) (QeI hS.mx (hS.e k0)) (hS.p k0) (Qii hS.mx (hS.e k0) (hS.p k0) (hS.pf k0)) (fun body s r h=>⟨k0,h⟩) (fun body s r h=>⟨k0,h⟩) c cc hc hk hinv hlim (h k0 k0 (Nat.le_refl _) (Nat.le_refl _)) (hr p hra)
variable {w':World}
structure Frn (g:Gh) (w w':World):Prop where
 os:w'.os=w.os
 tape:w'.tape=w.tape
 output:w'.output=w.output
 size:w.heap.size≤w'.heap.size
 block:∀k,k<w.heap.size→(g.own k≠ .free∨g.bd k≠0)→w'.heap[k]? =w.heap[k]?
theorem Frn.stays(h:Frn g w w'){H:Qab}(hH:HeapOK g H w)(b i:Nat)(hi:i<g.bd b):i<g.bd b∧QaL w' b i=QaL w b i:=
 ⟨hi,Qbh (h.block b (hH.bd_lt hi) (.inr (by omega))) i⟩
theorem Frn.vr(h:Frn g w w'){H:Qab}(hH:HeapOK g H w){x:AV}{v:Value}(hv:VR g w x v):VR g w' x v:=
 hv.mono (h.stays hH) (Nat.le_refl _) (fun _ _=>rfl) (fun _ h=>h) (fun _ _=>rfl)
theorem Frn.dr(h:Frn g w w'){H:Qab}(hH:HeapOK g H w){x:D}{v:Value}(hv:DR g.bd w x v):DR g.bd w' x v:=hv.mono (h.stays hH)
theorem Frn.fok(h:Frn g w w'){H:Qab}(hH:HeapOK g H w){loc:Own}(hl:loc≠ .free){x:AV}{v:Value}(hf:FOK g w loc x v):FOK g w' loc x v:=
 hf.keep fun b hb=>⟨hb,rfl,fun cs e fr hh hz=>⟨cs,fr,by rw[h.block b (hH.own_lt (by rw[hb];exact hl)) (.inl (by rw[hb];exact hl))];exact hh,rfl,hz⟩⟩
theorem Frn.or_(h:Frn g w w'){H:Qab}(hH:HeapOK g H w){r:Nat}{o:AObj}(hr:r<g.n)(ha:o≠ .dead→g.own (g.rho r)= .obj r)(ho:OR g w r o):OR g w' r o:=by
 have hb:o≠ .dead→w'.heap[g.rho r]? =w.heap[g.rho r]? :=fun hd=>h.block _ (hH.own_lt (by rw[ha hd];simp)) (.inl (by rw[ha hd];simp))
 cases o with
 |cells cs=>
  obtain⟨vs,e,fr,h1,h2,h3,h4,h5⟩:=ho
  exact⟨vs,e,fr,by rw[hb (by simp)];exact h1,h2,h3,h4,fun j c v hj hv=>⟨h.vr hH (h5 j c v hj hv).1,h.fok hH (by simp) (h5 j c v hj hv).2⟩⟩
 |map kk es=>
  obtain⟨ms,clk,h1,h2,h3⟩:=ho
  refine⟨ms,clk,by rw[hb (by simp)];exact h1,h2,fun i k a m hi hm=> ?_⟩
  obtain⟨q1,q2,q3,q4⟩:=h3 i k a m hi hm
  exact⟨h.dr hH q1,q2,h.vr hH q3,q4⟩
 |siter s pos=>
  obtain⟨s',h1,h2⟩:=ho
  exact⟨s',by rw[hb (by simp)];exact h1,h2⟩
 |dead=>trivial
theorem Frn.heap(h:Frn g w w'){H:Qab}(hH:HeapOK g H w):HeapOK g H w' where
 n:=hH.n
 own:=hH.own
 obj r o ho:=by
  have hr:r<g.n:=by rw[hH.n];exact(List.getElem?_eq_some_iff.1 ho).1
  exact h.or_ hH hr (fun hd=>(hH.own r hr (Qck ho hd)).1) (hH.obj r o ho)
 new b hb:=hH.new b (Nat.le_trans h.size hb)
 glob n cs hn:=h.vr hH (hH.glob n cs hn)
theorem Frn.inv(h:Frn g w w')(hi:Inv g st a w):Inv g st a w' where
 heap:=h.heap hi.heap
 size:=hi.size
 tok i x v hx hv:=⟨h.vr hi.heap (hi.tok i x v hx hv).1,h.fok hi.heap (by simp) (hi.tok i x v hx hv).2⟩
 nores:=hi.nores
 defers:=hi.defers
theorem Frn.wf(h:Frn g w w'){g0:Gh}{w0:World}{H0:Qab}(h0:HeapOK g0 H0 w0)(hw:WF g0 w0 g w)(hb:∀k,k<w0.heap.size→w'.heap[k]? =w.heap[k]?):WF g0 w0 g w' where
 os:=h.os.trans hw.os
 tape:=h.tape.trans hw.tape
 output:=h.output.trans hw.output
 size:=Nat.le_trans hw.size h.size
 idle b hl ho:=by
  obtain⟨h1,h2,h3⟩:=hw.idle b hl ho
  exact⟨(hb b hl).trans h1,h2,h3⟩
 stays b i hi:=by
  obtain⟨h1,h2⟩:=hw.stays b i hi
  exact⟨h1,(Qbh (hb b (h0.bd_lt hi)) i).trans h2⟩
 n:=hw.n
 rho:=hw.rho
 out:=hw.out
 mine:=hw.mine
 rm:=hw.rm
theorem Inv.put(h:Inv g st a w){d:Nat}{x:AV}{v:Value}(hv:VR g w x v)(ht:Triv x v):Inv g ⟨st.T.set d x,st.H⟩ (a.put (some d) v) w where
 heap:=h.heap
 size:=by simp[Act.put,h.size]
 tok i y u hy hu:=by
  simp only[Act.put]at hy hu
  by_cases hd:d=i
  ·subst hd
   have hlt:d<st.T.length:=by have:=(List.getElem?_eq_some_iff.1 hy).1;simpa using this
   rw[List.getElem?_set_self hlt]at hy
   rw[Array.getElem?_setIfInBounds_self_of_lt (by rw[←h.size];exact hlt)]at hu
   simp at hy hu;subst hy hu
   exact⟨hv,FOK.triv ht⟩
  ·rw[List.getElem?_set_ne hd]at hy
   rw[Array.getElem?_setIfInBounds_ne hd]at hu
   exact h.tok i y u hy hu
 nores:=h.nores
 defers:=h.defers
theorem Qf6{ops:Array Oper}{o:Oper}{rest:List Oper}(hg:o.guard=none){f:FuncId}{xs:Array Operand}{ts:Array TypeId}(ho:o.op= .call { callee:= .value (.func f),args:=xs,argTypes:=ts })(hf:QhU P f)
  {R:Ending→World→Prop}(hc:Calls P f (xs.map a.eval) w R)(hk:∀e w',R e w'→∃v,e= .returned v∧wpList P ops Q rest (a.put o.dst v) w'):wpList P ops Q (o::rest) a w:=by
 obtain⟨fn,hfn,hb,hname⟩:=hf
 have he:(execOp a.eval o).run P w= .ok (.enter f (xs.map a.eval)) w:=by
  have:fn.body.isNone=false:=by cases e:fn.body<;>simp_all
  obtain⟨dst,op,type,pos,after,guard⟩:=o
  simp only at ho;subst ho
  show(callFunc f (#[]++xs.map a.eval++ #[])).run P w=_
  simp only[callFunc,Sem.run_bind,run_program,Result.andThen_ok,hfn,hname,this]
  simp
 refine wpList_plain hg fun K hK=> ?_
 unfold Oper.wp
 rw[he,Oper.upon_enter]
 refine hc.mono fun e w' hr=> ?_
 obtain⟨v,rfl,h⟩:=hk e w' hr
 exact hK _ _ h
theorem Qbn{ops:Array Oper}{o:Oper}{rest:List Oper}{E:Qa0}{c:COper}(hc:Qal P tk ops.toList o=some c)(hE:Qcn P E)(hinv:Inv g st a w)(hlim:lim≤st.H.length)
  {st':St}(hs:stepOp E lim c st=some st')(hK:∀g' a' w',WF g w g' w'→Inv g' st' a' w'→Ext lim st.H st'.H→wpList P ops Q rest a' w'):wpList P ops Q (o::rest) a w:=by
 simp only[wpList]
 exact Qb3 hc hE hinv hlim hs hK
def Gh.dead2(g:Gh)(b:Nat):Gh:= { g with rho:=fun r=>if r=g.n then b else g.rho r,n:=g.n+1 }
theorem Qhj(g:Gh)(w:World)(b:Nat):WF g w (g.dead2 b) w where
 os:=rfl
 tape:=rfl
 output:=rfl
 size:=Nat.le_refl _
 idle _ _ _:=⟨rfl,rfl,rfl⟩
 stays _ _ h:=⟨h,rfl⟩
 n:=Nat.le_succ _
 rho r hr:=by simp[Gh.dead2,Nat.ne_of_lt hr]
 out _ h:=h
 mine _ h:=h
theorem Qlr{H:Qab}(h:HeapOK g H w)(b:Nat):HeapOK (g.dead2 b) (H++ [.dead]) w where
 n:=by simp[Gh.dead2,h.n]
 own r hr ha:=by
  have hr':r<g.n+1:=hr
  have hne:r≠g.n:=fun e=>ha (by rw[e,h.n];simp)
  have hl:r<g.n:=by omega
  have ha':Qco H r:=by unfold Qco at ha⊢;rwa [List.getElem?_append_left (by rw[←h.n];exact hl)]at ha
  simpa[Gh.dead2,hne]using h.own r hl ha'
 obj r o ho:=by
  by_cases hl:r<H.length
  ·rw[List.getElem?_append_left hl]at ho
   exact(h.obj r o ho).keep (Qhj g w b) (by rw[h.n];exact hl) (fun _=>rfl) fun j a v hf=>hf.keep fun b hb=>⟨hb,rfl,fun cs e fr hh hz=>⟨cs,fr,hh,rfl,hz⟩⟩
  ·have:r<(H++ [AObj.dead]).length:=(List.getElem?_eq_some_iff.1 ho).1
   have:r=H.length:=by simp at this;omega
   subst this
   simp at ho;subst ho;trivial
 new b hb:=h.new b hb
 glob n cs hn:=(Qhj g w b).vr (h.glob n cs hn)
end
theorem FSound.less [Tab]{P:Program}{f:FuncId}{F F':Qba}(h:FSound P f F)(hl:∀lim a H r,F' lim a H=some r→F lim a H=some r):FSound P f F':=
 fun lim args H a H' h1 h2=>h lim args H a H' (hl _ _ _ _ h1) h2
theorem PSound.less [Tab] [Dfr]{P:Program}{f:FuncId}{F F':Qeh}(h:PSound P f F)(hl:∀lim a H r,F' lim a H=some r→F lim a H=some r):PSound P f F':=
 fun lim args H t x h1 h2=>h lim args H t x (hl _ _ _ _ h1) h2
theorem EnvS.slim [Tab]{P:Program}{pf:FuncId→Bool}{l:List (Option CFn)}{prim:FuncId→Option Qba}{primP:FuncId→Option Qeh}(hmx:P.follows .mixedOrders=true)(hp:∀f F,prim f=some F→FSound P f F)(hpp:∀f F,primP f=some F→PSound P f F)(hd:QcW prim primP)
  (hc:AllSlimP P pf 0 l):EnvS P pf (QaE (QcG l) prim) (QbZ (QcG l) pf prim primP):=by
 obtain⟨E,EP,h1,h2,h3,h4⟩:=slimP_ok (primP:=primP) hmx hp hpp hd hc
 exact⟨hmx,fun k f=>(h1 k f).less fun lim a H r h=>h3 k f lim a H r h,fun k f=>(h2 k f).less fun lim a H r h=>h4 k f lim a H r h,Qng⟩
theorem Ev.out [Tab]{X:Nat→Qa0}{f lim:Nat}{a:List AV}{H H':Qab}{v:AV}(h:Ev X f lim a H v H'):∃k0,∀k,k0≤k→X k f lim a H=some (v,H'):=by
 unfold Ev at h;exact h
end Go.Abs
namespace Go.Abs
variable [Tab]
theorem j_{a b:Prop}(x:a)(y:b):a∧b:=⟨x,y⟩
theorem w_r{F G G':Prop}(f:F)(k:G')(h:F→G'→G:=by intro f h;(repeat((first|refine QlL ?_|refine W_bk ?_|refine QlG ?_|refine Qhf ?_|refine Qhe ?_|(apply W_rg;focus(intro _;simp only[zz,simprocAttr,f];(first|done|with_reducible exact rfl)))|(refine W_cT ?_ ?_;focus(simp only[zp,simprocAttr];done))|(refine W_cF ?_ ?_;focus(simp only[zp,simprocAttr];done)))<;>(try simp only[zp,simprocAttr])));exact h):G:=h f k
theorem w_s{F G G':Prop}(f:F)(k:G')(h:F→G'→G:=by intro f h;((first|refine QlL ?_|refine W_bk ?_|refine QlG ?_|refine Qhf ?_|refine Qhe ?_|(apply W_rg;focus(intro _;simp only[zz,simprocAttr,f];(first|done|with_reducible exact rfl)))|(refine W_cT ?_ ?_;focus(simp only[zp,simprocAttr];done))|(refine W_cF ?_ ?_;focus(simp only[zp,simprocAttr];done)))<;>(try simp only[zp,simprocAttr]));exact h):G:=h f k
theorem v_r{F G G':Prop}(f:F)(k:G')(h:F→G'→G:=by intro f h;(repeat((first|refine QhT ?_|refine QjY ?_|refine QdO ?_|refine Qcm ?_|refine Qcl ?_|(apply Qhg;focus(intro _;simp only[zz,simprocAttr,f];(first|done|with_reducible exact rfl)))|(refine QjW ?_ ?_;focus(simp only[zp,simprocAttr];done))|(refine QjX ?_ ?_;focus(simp only[zp,simprocAttr];done)))<;>(try simp only[zp,simprocAttr])));exact h):G:=h f k
theorem v_s{F G G':Prop}(f:F)(k:G')(h:F→G'→G:=by intro f h;((first|refine QhT ?_|refine QjY ?_|refine QdO ?_|refine Qcm ?_|refine Qcl ?_|(apply Qhg;focus(intro _;simp only[zz,simprocAttr,f];(first|done|with_reducible exact rfl)))|(refine QjW ?_ ?_;focus(simp only[zp,simprocAttr];done))|(refine QjX ?_ ?_;focus(simp only[zp,simprocAttr];done)))<;>(try simp only[zp,simprocAttr]));exact h):G:=h f k
theorem w_1{F G G':Prop}{X1:Nat→Qa0}{f1 l1:Nat}{r1:List AV}{h1 j1:Qab}{v1:AV}(a1:Ev X1 f1 l1 r1 h1 v1 j1)(f:F)(k:G')(h:Ev X1 f1 l1 r1 h1 v1 j1→F→G'→G:=by intro a1 f h;((apply Qi3;focus(refine Evl.call a1 (Evl.all fun k e1=> ?_);simp(maxSteps:=100000000) only[zz,zd,simprocAttr,f,e1];(first|done|with_reducible exact rfl))))<;>(try simp only[zp,simprocAttr]);exact h):G:=h a1 f k
theorem w_2{F G G':Prop}{X1:Nat→Qa0}{f1 l1:Nat}{r1:List AV}{h1 j1:Qab}{v1:AV}{X2:Nat→Qa0}{f2 l2:Nat}{r2:List AV}{h2 j2:Qab}{v2:AV}(a1:Ev X1 f1 l1 r1 h1 v1 j1)(a2:Ev X2 f2 l2 r2 h2 v2 j2)(f:F)(k:G')(h:Ev X1 f1 l1 r1 h1 v1 j1→Ev X2 f2 l2 r2 h2 v2 j2→F→G'→G:=by intro a1 a2 f h;((apply Qi3;focus(refine Evl.call a1 (Evl.call a2 (Evl.all fun k e2 e1=> ?_));simp(maxSteps:=100000000) only[zz,zd,simprocAttr,f,e2,e1];(first|done|with_reducible exact rfl))))<;>(try simp only[zp,simprocAttr]);exact h):G:=h a1 a2 f k
theorem w_4{F G G':Prop}{X1:Nat→Qa0}{f1 l1:Nat}{r1:List AV}{h1 j1:Qab}{v1:AV}{X2:Nat→Qa0}{f2 l2:Nat}{r2:List AV}{h2 j2:Qab}{v2:AV}{X3:Nat→Qa0}{f3 l3:Nat}{r3:List AV}{h3 j3:Qab}{v3:AV}{X4:Nat→Qa0}{f4 l4:Nat}{r4:List AV}{h4 j4:Qab}{v4:AV}(a1:Ev X1 f1 l1 r1 h1 v1 j1)(a2:Ev X2 f2 l2 r2 h2 v2 j2)(a3:Ev X3 f3 l3 r3 h3 v3 j3)(a4:Ev X4 f4 l4 r4 h4 v4 j4)(f:F)(k:G')(h:Ev X1 f1 l1 r1 h1 v1 j1→Ev X2 f2 l2 r2 h2 v2 j2→Ev X3 f3 l3 r3 h3 v3 j3→Ev X4 f4 l4 r4 h4 v4 j4→F→G'→G:=by intro a1 a2 a3 a4 f h;((apply Qi3;focus(refine Evl.call a1 (Evl.call a2 (Evl.call a3 (Evl.call a4 (Evl.all fun k e4 e3 e2 e1=> ?_))));simp(maxSteps:=100000000) only[zz,zd,simprocAttr,f,e4,e3,e2,e1];(first|done|with_reducible exact rfl))))<;>(try simp only[zp,simprocAttr]);exact h):G:=h a1 a2 a3 a4 f k
end Go.Abs
namespace Go.Proofs.YtfoiaojdnmpgmaaGreatDoor
open Go Go.Lib
def by'(s:List UInt8)(i:Nat):Nat:=match s[i]? with
 |some c=>c.toNat
 |none=>0
theorem by_drop(s:List UInt8)(i j:Nat):by' (s.drop i) j=by' s (i+j):=by simp[by',List.getElem?_drop]
def dc(s:List UInt8):Nat×Nat:=decodeN s.length (by' s 0) (by' s 1) (by' s 2) (by' s 3)
theorem QjM(n a b c d:Nat):1≤(decodeN n a b c d).2:=by
 unfold decodeN;(repeat' split)<;>simp
theorem QlC(n a b c d:Nat)(h:1≤n):(decodeN n a b c d).2≤n:=by
 unfold decodeN;(repeat' split)<;>simp only<;>omega
theorem dc_pos(s:List UInt8):1≤(dc s).2:=QjM ..
theorem dc_le{s:List UInt8}(h:s≠ []):(dc s).2≤s.length:=QlC _ _ _ _ _ (by have:=List.length_pos_iff.2 h;omega)
def letsN:Nat→List UInt8→List (List UInt8)
 |0,_=> []
 |n+1,s=>if s= []then []else s.take (dc s).2::letsN n (s.drop (dc s).2)
def lets(s:List UInt8):List (List UInt8):=letsN s.length s
def let1(t:List UInt8):Int×Bool:=if dc t=(65533,1)then((by' t 0:Nat),true)else(((dc t).1:Nat),false)
def Good(t:List UInt8):Prop:=t≠ []∧(dc t).2=t.length
end Go.Proofs.YtfoiaojdnmpgmaaGreatDoor
namespace Go.Proofs.YtfoiaojdnmpgmaaGreatDoor
open Go Go.Abs Go.Lib
abbrev Tx:=List UInt8
abbrev sD(l:List Tx):D:= .slice (l.map D.str)
inductive J where
 |mk (k n:Int) (t:Tx) (ks:List Tx) (l:List J)
namespace J
def k:J→Int|.mk k _ _ _ _=>k
def n:J→Int|.mk _ n _ _ _=>n
def t:J→Tx|.mk _ _ t _ _=>t
def ks:J→List Tx|.mk _ _ _ ks _=>ks
def l:J→List J|.mk _ _ _ _ l=>l
end J
mutual
def J.d:J→D
 |.mk k n t ks l=> .agg [.int .i64 k,.int .i64 n,.str t,sD ks,.slice (J.ds l)]
def J.ds:List J→List D
 | []=> []
 |a::l=>J.d a::J.ds l
end
theorem ds_map:∀l:List J,J.ds l=l.map J.d
 | []=>by unfold J.ds;rfl
 |a::l=>by unfold J.ds;rw[ds_map l];rfl
abbrev jsD(l:List J):D:= .slice (l.map J.d)
theorem jd(j:J):j.d= .agg [.int .i64 j.k,.int .i64 j.n,.str j.t,sD j.ks,jsD j.l]:=by
 obtain⟨k,n,t,ks,l⟩:=j
 unfold J.d
 rw[ds_map];rfl
abbrev jC(j:J):List AV:= [.d (.int .i64 j.k),.d (.int .i64 j.n),.d (.str j.t),.d (sD j.ks),.d (jsD j.l)]
abbrev J.zero:J:= .mk 0 0 [] [] []
abbrev vB(s:Tx):Bool:=Lib.validD s
def namedB(ks:List Tx):Bool:=ks.all vB&&decide ks.Nodup
def QkK(j:J):Bool:=decide (j.ks.length+j.l.length=0)
def shapedB(j:J):Bool:=
 if j.k=0 then QkK j&&decide (j.n=0)&&decide (j.t= [])
 else if j.k=1 then QkK j&&decide (j.t= [])&&(decide (j.n=0)||decide (j.n=1))
 else if j.k=2 then QkK j&&decide (j.t= [])&&decide (-9007199254740991≤j.n)&&decide (j.n≤9007199254740991)
 else if j.k=3 then QkK j&&decide (j.n=0)&&vB j.t
 else if j.k=4 then decide (j.ks.length=0)&&decide (j.n=0)&&decide (j.t= [])
 else if j.k=5 then decide (j.ks.length=j.l.length)&&decide (j.n=0)&&decide (j.t= [])&&namedB j.ks
 else false
def goodB:Nat→J→Bool
 |0,_=>false
 |n+1,j=>shapedB j&&j.l.all (goodB n)
end Go.Proofs.YtfoiaojdnmpgmaaGreatDoor
namespace Go.Proofs.YtfoiaojdnmpgmaaGreatDoor
open Go Go.Abs
abbrev PR(α:Type):=Except (Nat×Nat) (α×Nat)
def nx(s:Tx)(at_:Nat):UInt8:=(s[at_]?).getD 0
def Qdd(c:UInt8):Bool:=c==32||c==9||c==10||c==13
def Qar(s:Tx)(at_:Nat):Nat:=at_+((s.drop at_).takeWhile Qdd).length
def Qem(s:Tx)(c:UInt8)(at_:Nat):Except (Nat×Nat) Nat:=if s[at_]? =some c then .ok (at_+1)else .error (11,at_)
def QdB(s:Tx):Tx→Nat→Except (Nat×Nat) Nat
 | [],at_=> .ok at_
 |c::w,at_=>match Qem s c at_ with
  |.ok p=>QdB s w p
  |.error e=> .error e
def Qce(c:UInt8):Bool:=decide (48≤c.toNat)&&decide (c.toNat≤57)
def QbA(s:Tx)(first:Nat):Nat→Nat→Nat→Except (Nat×Nat) (Nat×Nat)
 |0,_,at_=> .error (11,at_)
 |f+1,n,at_=>if Qce (nx s at_)then
   (if at_=first+1∧nx s first=48 then .error (11,at_)else QbA s first f (if n≤9007199254740991 then 10*n+((nx s at_).toNat-48)else n) (at_+1))
  else .ok (n,at_)
def QcS(s:Tx)(from_:Nat):PR J:=
 let first:=if nx s from_=45 then from_+1 else from_
 if Qce (nx s first)then match QbA s first (s.length+1) 0 first with
  |.error e=> .error e
  |.ok (n,p)=>if 9007199254740991<n∨nx s p=46∨nx s p=101∨nx s p=69 then .error (15,from_)
   else .ok (.mk 2 (if from_<first then-(n:Int)else n) [] [] [],p)
 else .error (11,first)
def hexV(c:UInt8):Option Nat:=
 if 48≤c.toNat∧c.toNat≤57 then some (c.toNat-48)
 else if 97≤c.toNat∧c.toNat≤102 then some (c.toNat-87)
 else if 65≤c.toNat∧c.toNat≤70 then some (c.toNat-55)else none
def Qcp(s:Tx):Nat→Nat→Nat→Except (Nat×Nat) (Nat×Nat)
 |0,n,at_=> .ok (n,at_)
 |k+1,n,at_=>match s[at_]? with
  |none=> .error (11,at_)
  |some c=>match hexV c with
   |none=> .error (11,at_)
   |some v=>Qcp s k (16*n+v) (at_+1)
def QgA(s:Tx)(at_:Nat):Except (Nat×Nat) (Nat×Nat):=match s[at_]? with
 |none=> .error (11,at_)
 |some c=>
  if c=34∨c=92∨c=47 then .ok (c.toNat,at_+1)
  else if c=98 then .ok (8,at_+1)
  else if c=102 then .ok (12,at_+1)
  else if c=110 then .ok (10,at_+1)
  else if c=114 then .ok (13,at_+1)
  else if c=116 then .ok (9,at_+1)
  else if c=117 then match Qcp s 4 0 (at_+1)with
   |.error e=> .error e
   |.ok (n,p)=>if n<55296∨57343<n then .ok (n,p)
    else if 56320≤n∨¬(s[p]? =some 92∧s[p+1]? =some 117)then .error (11,at_-1)
    else match Qcp s 4 0 (p+2)with
     |.error e=> .error e
     |.ok (m,q)=>if m<56320∨57343<m then .error (11,at_-1)else .ok (65536+(n-55296)*1024+(m-56320),q)
  else .error (11,at_)
def QcP(n:Nat):Tx:=
 if n<128 then [UInt8.ofNat n]
 else if n<2048 then [UInt8.ofNat (192+n/64),UInt8.ofNat (128+n % 64)]
 else if n<65536 then [UInt8.ofNat (224+n/4096),UInt8.ofNat (128+n/64 % 64),UInt8.ofNat (128+n % 64)]
 else [UInt8.ofNat (240+n/262144),UInt8.ofNat (128+n/4096 % 64),UInt8.ofNat (128+n/64 % 64),UInt8.ofNat (128+n % 64)]
def QcI(s:Tx):Nat→Tx→Nat→Except (Nat×Nat) (Tx×Nat)
 |0,_,at_=> .error (11,at_)
 |f+1,acc,at_=>match s[at_]? with
  |none=> .error (11,at_)
  |some c=>
   if c.toNat<32 then .error (11,at_)
   else if c=34 then .ok (acc,at_+1)
   else if c=92 then match QgA s (at_+1)with
    |.error e=> .error e
    |.ok (n,p)=>QcI s f (acc++QcP n) p
   else QcI s f (acc++ [c]) (at_+1)
def Qb6(s:Tx)(at_:Nat):Except (Nat×Nat) (Tx×Nat):=match Qem s 34 at_ with
 |.error e=> .error e
 |.ok p=>QcI s (s.length+1) [] p
def QfT(s:Tx)(first:Bool)(end_:UInt8)(at_:Nat):Except (Nat×Nat) (Bool×Nat):=
 let p:=Qar s at_
 if s[p]? =some end_ then .ok (false,p+1)
 else if first then .ok (true,p)
 else match Qem s 44 p with
  |.error e=> .error e
  |.ok q=> .ok (true,Qar s q)
def Qgr(c:UInt8):Bool:=Qce c||c==91||c==123||c==34||c==110||c==116||c==102||c==45
mutual
def Qbk(s:Tx):Nat→Nat→Nat→PR J
 |0,_,at_=> .error (11,at_)
 |f+1,deep,at_=>
  if 12<deep∧Qgr (nx s at_)then .error (12,at_)
  else if nx s at_=91 then match Qez s f deep true [] (at_+1)with
   |.error e=> .error e
   |.ok (l,p)=> .ok (.mk 4 0 [] [] l,p)
  else if nx s at_=123 then match Qbm s f deep true [] [] (at_+1)with
   |.error e=> .error e
   |.ok (ks,l,p)=> .ok (.mk 5 0 [] ks l,p)
  else if nx s at_=34 then match Qb6 s at_ with
   |.error e=> .error e
   |.ok (t,p)=> .ok (.mk 3 0 t [] [],p)
  else if nx s at_=110 then match QdB s [110,117,108,108] at_ with
   |.error e=> .error e
   |.ok p=> .ok (.mk 0 0 [] [] [],p)
  else if nx s at_=116 then match QdB s [116,114,117,101] at_ with
   |.error e=> .error e
   |.ok p=> .ok (.mk 1 1 [] [] [],p)
  else if nx s at_=102 then match QdB s [102,97,108,115,101] at_ with
   |.error e=> .error e
   |.ok p=> .ok (.mk 1 0 [] [] [],p)
  else QcS s at_
def Qez(s:Tx):Nat→Nat→Bool→List J→Nat→PR (List J)
 |0,_,_,_,at_=> .error (11,at_)
 |f+1,deep,first,acc,at_=>match QfT s first 93 at_ with
  |.error e=> .error e
  |.ok (false,p)=> .ok (acc,p)
  |.ok (true,p)=>match Qbk s f (deep+1) p with
   |.error e=> .error e
   |.ok (j,q)=>Qez s f deep false (acc++ [j]) q
def Qbm(s:Tx):Nat→Nat→Bool→List Tx→List J→Nat→Except (Nat×Nat) (List Tx×List J×Nat)
 |0,_,_,_,_,at_=> .error (11,at_)
 |f+1,deep,first,ks,l,at_=>match QfT s first 125 at_ with
  |.error e=> .error e
  |.ok (false,p)=> .ok (ks,l,p)
  |.ok (true,p)=>match Qb6 s p with
   |.error e=> .error e
   |.ok (k,q)=>if ks.contains k then .error (14,p)else match Qem s 58 (Qar s q)with
    |.error e=> .error e
    |.ok r=>match Qbk s f (deep+1) (Qar s r)with
     |.error e=> .error e
     |.ok (j,z)=>Qbm s f deep false (ks++ [k]) (l++ [j]) z
end
def tless(a b:Tx):Bool:=Op.bytesLess a b
def insK(ks:List Tx)(i:Nat):List Nat→List Nat
 | []=> [i]
 |j::l=>if tless (ks.getD j []) (ks.getD i [])then j::insK ks i l else i::j::l
def Qk3(ks:List Tx):List Nat→List Nat
 | []=> []
 |i::l=>insK ks i (Qk3 ks l)
def Qbi(ks:List Tx):List Nat:=Qk3 ks (List.range ks.length)
mutual
def QaD:J→J
 |.mk k n t ks l=>if k=5 then .mk k n t ((Qbi ks).map fun i=>ks.getD i []) ((Qbi ks).map fun i=>(Qev l).getD i J.zero)else .mk k n t [] (Qev l)
def Qev:List J→List J
 | []=> []
 |a::l=>QaD a::Qev l
end
theorem QfP:∀l:List J,Qev l=l.map QaD
 | []=>by unfold Qev;rfl
 |a::l=>by unfold Qev;rw[QfP l];rfl
theorem Qmw(j:J):QaD j=if j.k=5 then .mk j.k j.n j.t ((Qbi j.ks).map fun i=>j.ks.getD i []) ((Qbi j.ks).map fun i=>(j.l.map QaD).getD i J.zero)else .mk j.k j.n j.t [] (j.l.map QaD):=by
 obtain⟨k,n,t,ks,l⟩:=j
 conv=>lhs;unfold QaD
 rw[QfP];rfl
def QeN(s:Tx):Nat→Nat→Int
 |0,_=> -1
 |f+1,p=>if p<s.length then(if dec s p=(65533,1)then p else QeN s f (p+(dec s p).2))else-1
def QaV(s:Tx):Int:=QeN s (s.length+1) 0
def QbT(s:Tx):Except (Nat×Nat) J:=
 if 16384<s.length then .error (13,16384)
 else if 0≤QaV s then .error (10,(QaV s).toNat)
 else match Qbk s (2*s.length+3) 1 (Qar s 0)with
  |.error e=> .error e
  |.ok (j,p)=>if Qar s p<s.length then .error (16,Qar s p)else .ok (QaD j)
end Go.Proofs.YtfoiaojdnmpgmaaGreatDoor
