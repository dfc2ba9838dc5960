/- Part 4. -/
import Derived.Test.YtmhmjlfajlpabaaDoorPartC
import Derived.Lib.Bytealg
import Derived.WalkKit
import Derived.Lib.DecodeN
import Derived.Lib.ValidU
import GoSem.PinnedTables
import Derived.Lib.ItoaNum
import Derived.Lib.BitFns
set_option linter.all false
namespace Go.Abs
variable [Tab]
def QcR:QbC:=fun _ args H=>match args with
 | [.d (.str s),.d (.int .u8 c)]=>some (.d (.int .i64 (Lib.indexByte s c.toNat.toUInt8)),H)
 |_=>none
theorem QkU{lim:Nat}{args:List AV}{H:Qaa}{r:AV×Qaa}(h:QcR lim args H=some r):∃s c,args= [.d (.str s),.d (.int .u8 c)]∧r=(.d (.int .i64 (Lib.indexByte s c.toNat.toUInt8)),H):=by
 unfold QcR at h
 split at h
 ·simp only[Option.some.injEq]at h
  exact⟨_,_,rfl,h.symm⟩
 ·cases h
theorem QiL{P:Program}{f:FuncId}{fn:Func}(hf:P.funcs[f]? =some fn)(hname:(fn.name== "runtime.NumGoroutine")=false)(hb:fn.body.isNone=true)(hn:Extern.findNext fn=none)
  (he:Extern.find fn=some Extern.BytealgIndexByte.indexByte):FSound P f QcR:=by
 intro lim args H a H' h hlim
 obtain⟨s,c,rfl,hr⟩:=QkU h
 obtain⟨rfl,rfl⟩:=Prod.mk.inj hr
 refine⟨Ext.refl _ _,fun vals g w hH hn' hl hv=> .inr ?_⟩
 obtain⟨vl⟩:=vals
 match vl,hl with
 | [u,v],_=>
   have h0:=(hv 0 _ u rfl (by simp)).1
   have h1:=(hv 1 _ v rfl (by simp)).1
   cases h0 with
   |d _ _ h0=>cases h0 with
    |str _ t ht=>cases h1 with
     |d _ _ h1=>cases h1 with
      |int _ _=>
       refine⟨.int .i64 (Lib.indexByte s c.toNat.toUInt8),g,w, ?_,WF.refl _ _,hH,.d _ _ (.int _ _),fun xs e=>by cases e⟩
       rw[run_callFunc_extern hf hname hb hn he]
       have:=Lib.run_indexByteString (P:=P) t c w
       rw[ht]at this
       rw[this];rfl
end Go.Abs
namespace Go.Abs
open Go.RowKit
variable [Tab]
section
variable {g:Gh} {H:Qaa} {w w':World}
theorem Qga(hH:HeapOK g H w)(h:Below w.heap.size w w'):WF g w g w' where
 os:=h.os
 tape:=h.tape
 output:=h.output
 size:=h.size
 idle b hb _:=⟨h.block b hb,rfl,rfl⟩
 stays b i hi:=⟨hi,Qby (h.block b (hH.bd_lt hi)) i⟩
 n:=Nat.le_refl _
 rho _ _:=rfl
 out _ h:=h
 mine _ h:=h
theorem Qig(hH:HeapOK g H w)(h:Below w.heap.size w w'):HeapOK g H w' where
 n:=hH.n
 own:=hH.own
 obj r o ho:=(hH.obj r o ho).keep (Qga hH h) (by rw[hH.n];exact(List.getElem?_eq_some_iff.1 ho).1)
  (fun hd=>h.block _ (hH.rho_lt (by rw[hH.n];exact(List.getElem?_eq_some_iff.1 ho).1) (by unfold Qb2;rw[ho];intro e;injection e with e;exact hd e)))
  (fun j c v hf=>hf.keep fun b hb=>⟨hb,rfl,fun cs e fr hh hz=>⟨cs,fr,by rw[h.block b (hH.own_lt (by rw[hb];simp))];exact hh,rfl,hz⟩⟩)
 new b hb:=hH.new b (Nat.le_trans h.size hb)
 glob n cs hn:=(Qga hH h).vr (hH.glob n cs hn)
end
theorem text_sound{P:Program}{f:FuncId}{fn:Func}(hf:P.funcs[f]? =some fn)(hb:fn.body.isSome=true)(hname:(fn.name== "runtime.NumGoroutine")=false){ok:List UInt8→Prop} [DecidablePred ok]{out:List UInt8→D}{res:ByteArray→Value}
  (hr:∀(bd:Nat→Nat) (w:World) s,DR bd w (out s.data.toList) (res s))
  (h:∀(g:Gh) (H:Qaa) (w:World),HeapOK g H w→∀s:ByteArray,ok s.data.toList→Calls P f #[.string s] w fun e w'=>e= .returned (res s)∧Below w.heap.size w w'):
  FSound P f fun _ args H=>match args with
   | [.d (.str s)]=>if ok s then some (.d (out s),H)else none
   |_=>none:=by
 intro lim args H a H' hF hlim
 simp only at hF
 split at hF
 ·rename_i s
  split at hF
  ·rename_i hok
   simp only[Option.some.injEq,Prod.mk.injEq]at hF
   obtain⟨rfl,rfl⟩:=hF
   refine⟨Ext.refl _ _,fun vals g w hH hn hl hv=> .inl ⟨⟨fn,hf,hb,hname⟩, ?_⟩⟩
   obtain⟨vl⟩:=vals
   match vl,hl with
   | [u],_=>
     have h0:=(hv 0 _ u rfl (by simp)).1
     cases h0 with
     |d _ _ h0=>cases h0 with
      |str _ t ht=>
       subst ht
       refine Calls.mono (h g H w hH t hok) ?_
       rintro e w' ⟨rfl,hbel⟩
       exact⟨_,g,rfl,Qga hH hbel,Qig hH hbel,.d _ _ (hr _ _ t),fun xs e=>by cases e⟩
  ·cases hF
 ·cases hF
theorem Qkq{P:Program}{f:FuncId}{fn:Func}(hf:P.funcs[f]? =some fn)(hb:fn.body.isSome=true)(hname:(fn.name== "runtime.NumGoroutine")=false){ok:List UInt8→Prop} [DecidablePred ok]{out out2:List UInt8→D}{res res2:ByteArray→Value}
  (hr:∀(bd:Nat→Nat) (w:World) s,DR bd w (out s.data.toList) (res s))(hr2:∀(bd:Nat→Nat) (w:World) s,DR bd w (out2 s.data.toList) (res2 s))
  (h:∀(g:Gh) (H:Qaa) (w:World),HeapOK g H w→∀s:ByteArray,ok s.data.toList→Calls P f #[.string s] w fun e w'=>e= .returned (.tuple #[res s,res2 s])∧Below w.heap.size w w'):
  FSound P f fun _ args H=>match args with
   | [.d (.str s)]=>if ok s then some (.tuple [.d (out s),.d (out2 s)],H)else none
   |_=>none:=by
 intro lim args H a H' hF hlim
 simp only at hF
 split at hF
 ·rename_i s
  split at hF
  ·rename_i hok
   simp only[Option.some.injEq,Prod.mk.injEq]at hF
   obtain⟨rfl,rfl⟩:=hF
   refine⟨Ext.refl _ _,fun vals g w hH hn hl hv=> .inl ⟨⟨fn,hf,hb,hname⟩, ?_⟩⟩
   obtain⟨vl⟩:=vals
   match vl,hl with
   | [u],_=>
     have h0:=(hv 0 _ u rfl (by simp)).1
     cases h0 with
     |d _ _ h0=>cases h0 with
      |str _ t ht=>
       subst ht
       refine Calls.mono (h g H w hH t hok) ?_
       rintro e w' ⟨rfl,hbel⟩
       refine⟨_,g,rfl,Qga hH hbel,Qig hH hbel,.tuple _ _ rfl (fun i c v hc hv=> ?_) (fun i c v hc hv=> ?_),fun xs e=>by cases e⟩
       ·match i with
        |0=>cases hc;cases hv;exact .d _ _ (hr _ _ t)
        |1=>cases hc;cases hv;exact .d _ _ (hr2 _ _ t)
        |i+2=>simp at hc
       ·match i with
        |0=>cases hc;exact Triv.d _ _
        |1=>cases hc;exact Triv.d _ _
        |i+2=>simp at hc
  ·cases hF
 ·cases hF
end Go.Abs
namespace Go.Abs
open Go.RowKit
variable [Tab]
def Gh.bare(g:Gh):Gh:= { bd:=g.bd,own:=fun _=> .free,rho:=fun _=>0,rm:=fun _=>0,n:=0 }
theorem Qo5{g:Gh}{H:Qaa}{w:World}(h:HeapOK g H w):HeapOK g.bare [] w where
 n:=rfl
 own r hr:=by simp[Gh.bare]at hr
 obj r o ho:=by simp at ho
 new b hb:=⟨rfl,(h.new b hb).2⟩
 glob n cs hn:=by
  cases h.glob n cs hn with
  |pref _ _ _ vs hf hc h=>exact .pref cs _ _ vs hf hc h
def Gh.join(g g':Gh)(w w':World):Gh:=
 { g with bd:=fun b=>if b<w.heap.size then g.bd b else g'.bd b,own:=fun b=>if b<w.heap.size then g.own b else if b<w'.heap.size then .mine else .free }
section
variable {g g':Gh} {H:Qaa} {w w':World}
theorem QkS(hH:HeapOK g H w)(hw:WF g.bare w g' w'):WF g w (g.join g' w w') w' where
 os:=hw.os
 tape:=hw.tape
 output:=hw.output
 size:=hw.size
 idle b hb ho:=⟨(hw.idle b hb (.inl rfl)).1,by simp[Gh.join,hb],by simp[Gh.join,hb]⟩
 stays b i hi:=by
  have hb:=hH.bd_lt hi
  exact⟨by simp only[Gh.join];rw[if_pos hb];exact hi,Qby (hw.idle b hb (.inl rfl)).1 i⟩
 n:=Nat.le_refl _
 rho _ _:=rfl
 out b hb:=by
  simp only[Gh.join]at hb
  split at hb
  ·exact hb
  ·split at hb<;>cases hb
 mine b hb:=by
  have hlt:=hH.own_lt (b:=b) (by rw[hb];simp)
  simp only[Gh.join]
  rw[if_pos hlt];exact hb
theorem Qox(hH:HeapOK g H w)(hw:WF g.bare w g' w')(hh:HeapOK g' [] w'):HeapOK (g.join g' w w') H w' where
 n:=hH.n
 own r hr ha:=by
  obtain⟨h1,h2⟩:=hH.own r hr ha
  have hb:=hH.rho_lt hr ha
  exact⟨by simp only[Gh.join];rw[if_pos hb];exact h1,by simp only[Gh.join];rw[if_pos hb];exact h2⟩
 obj r o ho:=by
  have hr:r<g.n:=by rw[hH.n];exact(List.getElem?_eq_some_iff.1 ho).1
  refine(hH.obj r o ho).keep (QkS hH hw) hr (fun hd=>(hw.idle _ (hH.rho_lt hr (by unfold Qb2;rw[ho];intro e;injection e with e;exact hd e)) (.inl rfl)).1) (fun j a v hf=>hf.keep fun b hb=> ?_)
  have hlt:=hH.own_lt (b:=b) (by rw[hb];simp)
  refine⟨by simp only[Gh.join];rw[if_pos hlt];exact hb,by simp only[Gh.join];rw[if_pos hlt],fun cs e fr hq hz=>⟨cs,fr,by rw[(hw.idle b hlt (.inl rfl)).1];exact hq,rfl,hz⟩⟩
 new b hb:=by
  have h1:¬b<w.heap.size:=fun h=>absurd (Nat.lt_of_lt_of_le h hw.size) (Nat.not_lt.2 hb)
  exact⟨by simp only[Gh.join];rw[if_neg h1,if_neg (Nat.not_lt.2 hb)],by simp only[Gh.join];rw[if_neg h1];exact(hh.new b hb).2⟩
 glob n cs hn:=(QkS hH hw).vr (hH.glob n cs hn)
theorem QmT(hw:WF g.bare w g' w'):∀b i,i<g'.bd b→i<(g.join g' w w').bd b∧QaR w' b i=QaR w' b i:=fun b i hi=>by
 refine⟨?_,rfl⟩
 simp only[Gh.join]
 split
 ·rename_i hb
  have:=(hw.idle b hb (.inl rfl)).2.2
  rw[show g.bare.bd b=g.bd b from rfl]at this
  rw[←this];exact hi
 ·exact hi
end
def liftF(F:QbC):QbC:=fun _ args H=>if(args.all fun a=>match a with|.d _=>true|_=>false)=true then match F 0 args []with
 |some (.d d,[])=>some (.d d,H)
 |_=>none
 else none
theorem QmR{P:Program}{f:FuncId}{F:QbC}(hF:FSoundC P f F):FSoundC P f (liftF F):=by
 intro lim args H a H' h hlim
 unfold liftF at h
 split at h
 ·rename_i hpure
  split at h
  ·rename_i d h0
   simp only[Option.some.injEq,Prod.mk.injEq]at h
   obtain⟨rfl,rfl⟩:=h
   obtain⟨q1,q2,q3⟩:=hF 0 args [] _ _ h0 (Nat.zero_le _)
   refine⟨q1,Ext.refl _ _,fun vals g w hH hn hl hv=> ?_⟩
   refine Calls.mono (q3 vals g.bare w (Qo5 hH) (fun b=>by simp[Gh.bare]) hl fun i x v hx hv'=> ?_) ?_
   ·rw[List.all_eq_true]at hpure
    have hp:=hpure x (List.mem_of_getElem? hx)
    have hvr:=(hv i x v hx hv').1
    split at hp
    ·cases hvr with
     |d _ _ h=>exact⟨.d _ _ h,FOK.triv (Triv.d _ _)⟩
    ·cases hp
   ·rintro e w' ⟨v,g',rfl,k1,k2,k3,k4⟩
    refine⟨v,g.join g' w w',rfl,QkS hH k1,Qox hH k1 k2, ?_,FOK.triv (Triv.d _ _)⟩
    cases k3 with
    |d _ _ h=>exact .d _ _ (h.mono (QmT k1))
  ·cases h
 ·cases h
theorem Qj7{P:Program}{pf:FuncId→Bool}{l:List (Option CFn)}{prim:FuncId→Option QbC}(hmx:P.follows .mixedOrders=true)(hp:∀f F,prim f=some F→FSound P f F)(hc:AllSlimP P pf 0 l){k:Nat}{f:FuncId}{d:D}(hpf:prim f=none)
  (h:QaF (Qdx l) prim k f 0 [] []=some (.d d,[])):FSound P f fun _ args H=>match args with| []=>some (.d d,H)|_=>none:=by
 obtain⟨code,h1,_,h3⟩:=Qly hc
 have hl:=QmR (Qm7 hmx h1 hp k hpf)
 refine FSoundC.plain fun lim args H a H' hF hlim=> ?_
 cases args with
 |cons _ _=>cases hF
 |nil=>
  simp only[Option.some.injEq,Prod.mk.injEq]at hF
  obtain⟨rfl,rfl⟩:=hF
  refine hl lim [] H _ _ ?_ hlim
  have:=Qf8 h3 k f 0 [] [] _ h
  simp only[liftF,List.all_nil,if_true,this]
end Go.Abs
namespace Go.Abs
variable [Tab]
section
variable (X:Nat→Qbk) (XP:Nat→Qfw)
def EvP(f:FuncId)(lim:Nat)(args:List AV)(H:Qaa)(p:PV):Prop:=∃k0,∀k,k0≤k→XP k f lim args H=some p
def Fv(f:FuncId)(lim:Nat)(args:List AV)(H:Qaa)(Q:AV→Qaa→Prop)(R:PV→Prop):Prop:=Fn X f lim args H Q∨∃p,EvP XP f lim args H p∧R p
def WP(lim:Nat)(c:CCode)(st:St)(R:PV→Prop):Prop:=
 ∃p,(∃k0,∀k n,k0≤k→k0≤n→Qb9 (X k) (XP k) lim (fun b s=>Qaw b n s) (fun b s=>Qaw b n s) c st=some p)∧R p
def V(lim:Nat)(c:CCode)(st:St)(Q:AExit→St→Prop)(R:PV→Prop):Prop:=W X lim c st Q∨WP X XP lim c st R
def VO(lim:Nat)(ops:List COper)(st:St)(Q:St→Prop)(R:PV→Prop):Prop:=WO X lim ops st Q∨∃p,(∃k0,∀k,k0≤k→panOps (X k) (XP k) lim ops st=some p)∧R p
def seqV(lim:Nat)(b:CCode)(Q:AExit→St→Prop)(R:PV→Prop):AExit→St→Prop
 |.normal,s=>V X XP lim b s Q R
 |.exit i,s=>Q (.exit i) s
 |.ret,s=>Q .ret s
variable {X XP} {lim:Nat} {Q:AExit→St→Prop} {R:PV→Prop} {a b:CCode} {st:St}
theorem Qpg{c:CCode}(h:W X lim c st Q):∃e st',(∃k0,∀k n,k0≤k→k0≤n→evalC (X k) lim (fun b s=>Qaw b n s) c st=some (e,st'))∧Q e st':=by
 unfold W at h;exact h
theorem W_in{c:CCode}(h:∃e st',(∃k0,∀k n,k0≤k→k0≤n→evalC (X k) lim (fun b s=>Qaw b n s) c st=some (e,st'))∧Q e st'):W X lim c st Q:=by
 unfold W;exact h
theorem QcM(h:Q .normal st):V X XP lim .skip st Q R:= .inl (Qpf h)
theorem QcN{id:Nat}(h:Q (.exit id) st):V X XP lim (.exit id) st Q R:= .inl (Qph h)
theorem Qer(h:Q .ret st):V X XP lim .ret st Q R:= .inl (W_ret h)
theorem Qi0(h:V X XP lim a st (seqV X XP lim b Q R) R):V X XP lim (.seq a b) st Q R:=by
 rcases h with h|⟨v,⟨k0,h⟩,hr⟩
 ·obtain⟨e,s,⟨k0,h⟩,hq⟩:=Qpg h
  cases e with
  |normal=>
   rcases(show V X XP lim b s Q R from hq)with hq|⟨v,⟨k1,h2⟩,hr⟩
   ·obtain⟨e2,s2,⟨k1,h2⟩,hq2⟩:=Qpg hq
    exact .inl (W_in ⟨e2,s2,⟨max k0 k1,fun k n hk hn=>by simp only[evalC,h k n (by omega) (by omega)];exact h2 k n (by omega) (by omega)⟩,hq2⟩)
   ·exact .inr ⟨v,⟨max k0 k1,fun k n hk hn=>by simp only[Qb9,h k n (by omega) (by omega)];exact h2 k n (by omega) (by omega)⟩,hr⟩
  |exit i=>exact .inl (W_in ⟨.exit i,s,⟨k0,fun k n hk hn=>by simp only[evalC,h k n hk hn]⟩,hq⟩)
  |ret=>exact .inl (W_in ⟨.ret,s,⟨k0,fun k n hk hn=>by simp only[evalC,h k n hk hn]⟩,hq⟩)
 ·exact .inr ⟨v,⟨k0,fun k n hk hn=>by simp only[Qb9,Qcj a (h k n hk hn)];exact h k n hk hn⟩,hr⟩
theorem Qlk{c:Opd}(hc:evx st.T [] c= .d (.bool true))(h:V X XP lim a st Q R):V X XP lim (.cond c a b) st Q R:=by
 rcases h with h|⟨v,⟨k0,h⟩,hr⟩
 ·exact .inl (W_cT hc h)
 ·exact .inr ⟨v,⟨k0,fun k n hk hn=>by simp only[Qb9,hc,if_true];exact h k n hk hn⟩,hr⟩
theorem Qll{c:Opd}(hc:evx st.T [] c= .d (.bool false))(h:V X XP lim b st Q R):V X XP lim (.cond c a b) st Q R:=by
 rcases h with h|⟨v,⟨k0,h⟩,hr⟩
 ·exact .inl (W_cF hc h)
 ·exact .inr ⟨v,⟨k0,fun k n hk hn=>by simp only[Qb9,hc,Bool.false_eq_true,if_false];exact h k n hk hn⟩,hr⟩
theorem Qlm{id:Nat}(h:V X XP lim a st (blockK id Q) R):V X XP lim (.block id a) st Q R:=by
 rcases h with h|⟨v,⟨k0,h⟩,hr⟩
 ·exact .inl (W_bk h)
 ·exact .inr ⟨v,⟨k0,fun k n hk hn=>by simp only[Qb9];exact h k n hk hn⟩,hr⟩
theorem Qih{ops:List COper}{chk:Option Chk}{fg:List Nat}{st':St}(h:∀k,evalR (X k) lim ops chk fg st=some st')(hq:Q .normal st'):V X XP lim (.region ops chk fg) st Q R:= .inl (W_rg h hq)
theorem QaX{ops:List COper}{chk:Option Chk}{fg:List Nat}{st':St}(h:Evl fun k=>evalR (X k) lim ops chk fg st=some st')(hq:Q .normal st'):V X XP lim (.region ops chk fg) st Q R:= .inl (Qpi h hq)
theorem V_pan{ops:List COper}{fg:List Nat}{chk:Option Chk}{v:PV}(h:Evl fun k=>panR (X k) (XP k) lim ops chk st=some v)(hr:R v):V X XP lim (.region ops chk fg) st Q R:=by
 obtain⟨k0,h⟩:=h
 exact .inr ⟨v,⟨k0,fun k n hk _=>by simp only[Qb9];exact h k hk⟩,hr⟩
theorem Evl.pan{f lim:Nat}{a:List AV}{H:Qaa}{v:PV}{P:Nat→Prop}(e:EvP XP f lim a H v)(h:Evl fun k=>XP k f lim a H=some v→P k):Evl P:=by
 obtain⟨k1,h1⟩:=e
 obtain⟨k2,h2⟩:=h
 exact⟨k1+k2,fun k hk=>h2 k (by omega) (h1 k (by omega))⟩
theorem Qan{ops:List COper}{fg:List Nat}(h:VO X XP lim ops st (fun s=>Q .normal ⟨forgetT s.T fg,s.H⟩) R):V X XP lim (.region ops none fg) st Q R:=by
 rcases h with h|⟨v,⟨k0,h⟩,hr⟩
 ·exact .inl (QcT h)
 ·exact .inr ⟨v,⟨k0,fun k n hk _=>by simp only[Qb9,panR];exact h k hk⟩,hr⟩
theorem Qbq{ops:List COper}{st':St}{Q:St→Prop}(n:Nat)(h:∀k,runOps (X k) lim (ops.take n) st=some st')(k:VO X XP lim (ops.drop n) st' Q R):VO X XP lim ops st Q R:=by
 rcases k with k|⟨v,⟨k0,k⟩,hr⟩
 ·exact .inl (Qfv n h k)
 ·refine .inr ⟨v,⟨k0,fun j hj=> ?_⟩,hr⟩
  have key:∀(n:Nat) (ops:List COper) (st:St) (E:Qbk) (EP:Qfw),runOps E lim (ops.take n) st=some st'→panOps E EP lim ops st=panOps E EP lim (ops.drop n) st':=by
   intro n
   induction n with
   |zero=>intro ops st E EP h;simp[runOps]at h;simp[h]
   |succ n ih=>
    intro ops st E EP h
    cases ops with
    |nil=>simp[runOps]at h;simp[h]
    |cons o os=>
     simp only[List.take_succ_cons,runOps]at h
     simp only[List.drop_succ_cons]
     rw[panOps]
     cases hs:stepOp E lim o st with
     |none=>rw[hs]at h;simp at h
     |some s=>
      rw[hs]at h
      exact ih os s E EP h
  rw[key n ops st _ _ (h j)];exact k j hj
theorem Qpj{ops:List COper}{st':St}{Q:St→Prop}(h:∀k,runOps (X k) lim ops st=some st')(hq:Q st'):VO X XP lim ops st Q R:= .inl (QfO h hq)
theorem Ev.fv{f:FuncId}{args:List AV}{H H':Qaa}{v:AV}{Q:AV→Qaa→Prop}(h:Ev X f lim args H v H')(hq:Q v H'):Fv X XP f lim args H Q R:= .inl (Ev.fn h hq)
theorem EvP.fv{f:FuncId}{args:List AV}{H:Qaa}{v:PV}{Q:AV→Qaa→Prop}(h:EvP XP f lim args H v)(hr:R v):Fv X XP f lim args H Q R:= .inr ⟨v,h,hr⟩
theorem Fv.mono{f:FuncId}{args:List AV}{H:Qaa}{Q Q':AV→Qaa→Prop}{R':PV→Prop}(h:Fv X XP f lim args H Q R)(hq:∀v H',Q v H'→Q' v H')(hr:∀p,R p→R' p):Fv X XP f lim args H Q' R':=by
 rcases h with h|⟨p,h,h2⟩
 ·exact .inl (h.mono hq)
 ·exact .inr ⟨p,h,hr p h2⟩
class Parts (X:Nat→Qbk) (XP:Nat→Qfw):Prop where
 disj:∀k,Disj (X k) (XP k)
theorem QaD [hp:Parts X XP]{dst:Option Nat}{cons:List Nat}{f:FuncId}{args:List Opd}{os:List COper}{Q:St→Prop}(htf:Tab.tak f=false)
  (h:Fv X XP f lim (args.map (evx st.T cons)) st.H (fun v H'=>VO X XP lim os ⟨put (unflag st.T cons) dst v,H'⟩ Q R) R):VO X XP lim (⟨dst,.call f args,none,cons⟩::os) st Q R:=by
 rcases h with h|⟨p,⟨k0,h⟩,hr⟩
 ·obtain⟨v,H',⟨k1,h1⟩,h2⟩:∃v H',(∃k0,∀k,k0≤k→X k f lim (args.map (evx st.T cons)) st.H=some (v,H'))∧VO X XP lim os ⟨put (unflag st.T cons) dst v,H'⟩ Q R:=by unfold Fn Ev at h;exact h
  rcases h2 with h2|⟨p,⟨k2,h2⟩,hr⟩
  ·refine .inl (Qeq ?_)
   unfold Fn Ev
   exact⟨v,H',⟨k1,h1⟩,h2⟩
  ·exact .inr ⟨p,⟨k1+k2,fun k hk=>by
    simp only[panOps,stepOp,wanted,aop,h1 k (by omega)]
    exact h2 k (by omega)⟩,hr⟩
 ·refine .inr ⟨p,⟨k0,fun k hk=> ?_⟩,hr⟩
  simp only[panOps,stepOp,wanted,aop,hp.disj k _ _ _ _ _ (h k hk),panO,htf,Bool.false_eq_true,if_false]
  exact h k hk
theorem V_lp(I:Nat→St→Prop)(h:∀n st,I n st→V X XP lim a st (loopK I n Q) R)(n:Nat)(st:St)(hi:I n st):V X XP lim (.loop a) st Q R:=by
 have key:∀n st,I n st→(∃e s,(∃k0,∀k n m,k0≤k→k0≤n→k0≤m→Qaw (fun s=>match evalC (X k) lim (fun b s=>Qaw b n s) a s with
   |some (.normal,s')=>some (.inl s')
   |some r=>some (.inr r)
   |none=>none) m st=some (e,s))∧Q e s)∨∃v,(∃k0,∀k n m,k0≤k→k0≤n→k0≤m→Qaw (fun s=>match evalC (X k) lim (fun b s=>Qaw b n s) a s with
   |some (.normal,s')=>some (.inl s')
   |some _=>none
   |none=>match Qb9 (X k) (XP k) lim (fun b s=>Qaw b n s) (fun b s=>Qaw b n s) a s with
    |some r=>some (.inr r)
    |none=>none) m st=some v)∧R v:=by
  intro n
  induction n using Nat.strongRecOn with
  |_ n ih=>
   intro st hi
   rcases h n st hi with h1|⟨v,⟨k0,h1⟩,hr⟩
   ·obtain⟨e,s,⟨k0,h1⟩,hq⟩:=Qpg h1
    cases e with
    |normal=>
     unfold loopK at hq
     obtain⟨m,hm,hi'⟩:=hq
     rcases ih m hm s hi' with⟨e2,s2,⟨k1,h2⟩,hq2⟩|⟨v,⟨k1,h2⟩,hr⟩
     ·refine .inl ⟨e2,s2,⟨k0+k1+1,fun k n m hk hn hm=> ?_⟩,hq2⟩
      obtain⟨m,rfl⟩:∃p,m=p+1:=⟨m-1,by omega⟩
      simp only[Qaw,h1 k n (by omega) (by omega)]
      exact h2 k n m (by omega) (by omega) (by omega)
     ·refine .inr ⟨v,⟨k0+k1+1,fun k n m hk hn hm=> ?_⟩,hr⟩
      obtain⟨m,rfl⟩:∃p,m=p+1:=⟨m-1,by omega⟩
      simp only[Qaw,h1 k n (by omega) (by omega)]
      exact h2 k n m (by omega) (by omega) (by omega)
    |exit i=>
     unfold loopK at hq
     refine .inl ⟨.exit i,s,⟨k0+1,fun k n m hk hn hm=> ?_⟩,hq⟩
     obtain⟨m,rfl⟩:∃p,m=p+1:=⟨m-1,by omega⟩
     simp only[Qaw,h1 k n (by omega) (by omega)]
    |ret=>
     unfold loopK at hq
     refine .inl ⟨.ret,s,⟨k0+1,fun k n m hk hn hm=> ?_⟩,hq⟩
     obtain⟨m,rfl⟩:∃p,m=p+1:=⟨m-1,by omega⟩
     simp only[Qaw,h1 k n (by omega) (by omega)]
   ·refine .inr ⟨v,⟨k0+1,fun k n m hk hn hm=> ?_⟩,hr⟩
    obtain⟨m,rfl⟩:∃p,m=p+1:=⟨m-1,by omega⟩
    have hp:=h1 k n (by omega) (by omega)
    simp only[Qaw,Qcj a hp,hp]
 rcases key n st hi with⟨e,s,⟨k0,h1⟩,hq⟩|⟨v,⟨k0,h1⟩,hr⟩
 ·exact .inl (W_in ⟨e,s,⟨k0,fun k n hk hn=>by simp only[evalC];exact h1 k n n hk hn hn⟩,hq⟩)
 ·exact .inr ⟨v,⟨k0,fun k n hk hn=>by simp only[Qb9];exact h1 k n n hk hn hn⟩,hr⟩
theorem V_mid(P:St→Prop)(h1:V X XP lim a st (onlyK P) R)(h2:∀s,P s→V X XP lim b s Q R):V X XP lim (.seq a b) st Q R:=by
 refine Qi0 ?_
 rcases h1 with h1|h1
 ·refine .inl (h1.mono fun e s h=> ?_)
  unfold onlyK at h
  cases e with
  |normal=>exact h2 s h
  |exit i=>exact h.elim
  |ret=>exact h.elim
 ·exact .inr h1
end
section
variable {code:FuncId→Option CFn} {pf:FuncId→Bool} {prim:FuncId→Option QbC} {primP:FuncId→Option QeW} {lim:Nat}
theorem Qml{f:FuncId}{r:Nat}{as_:List AV}{H:Qaa}{Q:AV→Qaa→Prop}{R:PV→Prop}{na nt:Nat}{body:CCode}{res:List CRes}(hp:prim f=none)(hct:Tab.cut f=true)(hp2:primP f=none)(hpf:pf f=true)(hc:code f=some ⟨na,nt,true,body,res⟩)(hl:(AV.ptr r 0::as_).length=na)
  (h:V (QaF code prim) (Qcl code pf prim primP) lim body ⟨(AV.ptr r 0::as_)++List.replicate (nt-(AV.ptr r 0::as_).length) (.tuple []),H⟩ (ansC res H r Q) R):Fv (QaF code prim) (Qcl code pf prim primP) f lim (.ptr r 0::as_) H Q R:=by
 rcases h with h|⟨p,⟨k0,h⟩,hr⟩
 ·exact .inl (Fn_ofC hp hct hc hl h)
 ·refine .inr ⟨p,⟨k0+1,fun k hk=> ?_⟩,hr⟩
  obtain⟨k,rfl⟩:∃p,k=p+1:=⟨k-1,by omega⟩
  simp only[Qcl,hp,hp2,hpf,hc,if_true,QeN,hl]
  have:=h k k (by omega) (by omega)
  rw[hl]at this
  exact this
theorem Qnk{f:FuncId}{args:List AV}{H:Qaa}{Q:AV→Qaa→Prop}{R:PV→Prop}{na nt:Nat}{keep:Bool}{body:CCode}{res:List CRes}(hp:prim f=none)(hct:Tab.cut f=false)(hp2:primP f=none)(hpf:pf f=true)(hc:code f=some ⟨na,nt,keep,body,res⟩)(hl:args.length=na)
  (h:V (QaF code prim) (Qcl code pf prim primP) (if keep=true then lim else H.length) body ⟨args++List.replicate (nt-args.length) (.tuple []),H⟩ (ansK keep res H Q) R):Fv (QaF code prim) (Qcl code pf prim primP) f lim args H Q R:=by
 rcases h with h|⟨p,⟨k0,h⟩,hr⟩
 ·exact .inl (Qbj hp hct hc hl h)
 ·refine .inr ⟨p,⟨k0+1,fun k hk=> ?_⟩,hr⟩
  obtain⟨k,rfl⟩:∃p,k=p+1:=⟨k-1,by omega⟩
  simp only[Qcl,hp,hp2,hpf,hc,if_true,QeN,hl]
  have:=h k k (by omega) (by omega)
  rw[hl]at this
  exact this
end
attribute [irreducible] V VO Fv EvP seqV WP
end Go.Abs
namespace Go.Abs
variable [Tab]
theorem QdU{T:List AV}{H H':Qaa}{F:(Nat→AV)→List AV}(hH:H=H')(h:T=F fun n=>T.getD n .undef):∃x,(⟨T,H⟩:St)=⟨F x,H'⟩:=⟨fun n=>T.getD n .undef,by rw[←h,hH]⟩
theorem Qhk{res:List CRes}{H:Qaa}{Q:AV→Qaa→Prop}{s:St}{vs:List AV}(h:Qcg s.T s.H res=some vs)(hq:Q (QbX vs) s.H):ansK true res H Q .normal s:=by
 unfold ansK;exact⟨vs,h,by rw[if_pos rfl];exact hq⟩
theorem VO_panic{X:Nat→Qbk}{XP:Nat→Qfw}{lim:Nat}{dst:Option Nat}{cons:List Nat}{x:Opd}{os:List COper}{st:St}{Q:St→Prop}{R:PV→Prop}{t:TypeId}{v:D}(h:evx st.T cons x= .iface t (.d v))(hr:R (t,v)):VO X XP lim (⟨dst,.panic x,none,cons⟩::os) st Q R:=by
 unfold VO
 exact .inr ⟨(t,v),⟨0,fun k _=>by simp only[panOps,stepOp,wanted,aop,panO,h]⟩,hr⟩
theorem Fv.ev{X:Nat→Qbk}{XP:Nat→Qfw}{f lim:Nat}{a:List AV}{H H':Qaa}{v:AV}(h:Fv X XP f lim a H (fun v' J=>v'=v∧J=H') (fun _=>False)):Ev X f lim a H v H':=by
 unfold Fv at h
 rcases h with h|⟨_,_,h⟩
 ·exact Fn.ev h
 ·exact h.elim
theorem Fv.evP{X:Nat→Qbk}{XP:Nat→Qfw}{f lim:Nat}{a:List AV}{H:Qaa}{p:PV}(h:Fv X XP f lim a H (fun _ _=>False) (fun q=>q=p)):EvP XP f lim a H p:=by
 unfold Fv at h
 rcases h with h|⟨q,h1,rfl⟩
 ·unfold Fn at h
  obtain⟨_,_,_,h⟩:=h
  exact h.elim
 ·exact h1
theorem QbW{res:List CRes}{H:Qaa}{r:Nat}{Q:AV→Qaa→Prop}{s:St}{vs:List AV}{o:AObj}{G:Qaa}{v:AV}(h:Qcg s.T s.H res=some vs)(h2:s.H=H.set r o++G)(hr:r<H.length)(ho:scO H.length o=true)(hz:freeze s.H H.length (QbX vs)=some v)(hq:Q v (H.set r o)):ansC res H r Q .ret s:=by
 unfold ansC;exact⟨vs,o,G,v,h,h2,hr,ho,hz,hq⟩
theorem QcO{code:FuncId→Option CFn}{prim:FuncId→Option QbC}{f lim:Nat}{F:QbC}{args:List AV}{H H':Qaa}{v:AV}(hp:prim f=some F)(h:F lim args H=some (v,H')):Ev (QaF code prim) f lim args H v H':=
 Fn.ev (ev_mk (k0:=1) fun k hk=>by
  obtain⟨k,rfl⟩:∃j,k=j+1:=⟨k-1,by omega⟩
  simp only[QaF,hp,h])
theorem EvP_prim{code:FuncId→Option CFn}{pf:FuncId→Bool}{prim:FuncId→Option QbC}{primP:FuncId→Option QeW}{f lim:Nat}{F:QeW}{args:List AV}{H:Qaa}{v:PV}(hf:pf f=true)(hp:primP f=some F)(h:F lim args H=some v):EvP (Qcl code pf prim primP) f lim args H v:=by
 unfold EvP
 exact⟨1,fun k hk=>by
  obtain⟨k,rfl⟩:∃j,k=j+1:=⟨k-1,by omega⟩
  simp only[Qcl,hf,hp,h,if_true]⟩
theorem b_lss(k:IntKind)(a b:Int):Qa7 .lss k a b=some (.bool (decide (a<b))):=id rfl
theorem b_leq(k:IntKind)(a b:Int):Qa7 .leq k a b=some (.bool (decide (a≤b))):=id rfl
theorem b_geq(k:IntKind)(a b:Int):Qa7 .geq k a b=some (.bool (decide (a≥b))):=id rfl
theorem b_gtr(k:IntKind)(a b:Int):Qa7 .gtr k a b=some (.bool (decide (a>b))):=id rfl
theorem b_eql(k:IntKind)(a b:Int):Qa7 .eql k a b=some (.bool (a==b)):=id rfl
theorem b_neq(k:IntKind)(a b:Int):Qa7 .neq k a b=some (.bool (a !=b)):=id rfl
theorem b_add(k:IntKind)(a b:Int):Qa7 .add k a b=some (.int k (k.wrap (a+b))):=id rfl
theorem b_sub(k:IntKind)(a b:Int):Qa7 .sub k a b=some (.int k (k.wrap (a-b))):=id rfl
theorem b_mul(k:IntKind)(a b:Int):Qa7 .mul k a b=some (.int k (k.wrap (a*b))):=id rfl
theorem Qos(E:Qbk)(lim:Nat)(H:Qaa)(ρ:Opd→AV)(x:Opd):aop E lim H ρ (.len .str x)=match ρ x with
  |.d (.str s)=>some (intD s.length,H)
  |_=>none:=by
 simp only[aop]
 generalize ρ x=v
 cases v with
 |d y=>cases y<;>rfl
 |_=>rfl
theorem len_sl(E:Qbk)(lim:Nat)(H:Qaa)(ρ:Opd→AV)(x:Opd):aop E lim H ρ (.len .sl x)=match ρ x with
  |.oslice _ _ n _ _=>some (intD n,H)
  |v=>v.elems.map fun xs=>(intD xs.length,H):=by
 simp only[aop]
 generalize ρ x=v
 cases v<;>rfl
theorem Qot(E:Qbk)(lim:Nat)(H:Qaa)(ρ:Opd→AV)(x:Opd):aop E lim H ρ (.len .map x)=match ρ x with
  |.nilmap=>some (intD 0,H)
  |.mapr r=>match H[r]? with
   |some (.map _ es)=>some (intD es.length,H)
   |_=>none
  |_=>none:=by
 simp only[aop]
 generalize ρ x=v
 cases v<;>rfl
theorem uf0(x:D):(AV.d x).unf= .d x:=rfl
theorem uf1(xs:List D):(AV.fslice xs).unf= .d (.slice xs):=rfl
theorem uf2(r o:Nat):(AV.ptr r o).unf= .ptr r o:=rfl
theorem uf3(cs:List AV):(AV.agg cs).unf= .agg cs:=rfl
theorem uf4(cs:List AV):(AV.tuple cs).unf= .tuple cs:=rfl
theorem uf5(cs:List D):(AV.pref cs).unf= .pref cs:=rfl
theorem uf6(f:_root_.Go.Fn)(cs:List AV):(AV.func f cs).unf= .func f cs:=rfl
theorem uf7(a b c d e:Nat):(AV.oslice a b c d e).unf= .oslice a b c d e:=rfl
theorem uf8:AV.undef.unf= .undef:=rfl
theorem uf9(r:Nat):(AV.mapr r).unf= .mapr r:=rfl
theorem Qc9(w a:Nat):BitVec.ofInt w (a:Int)=BitVec.ofNat w a:=by
 apply BitVec.eq_of_toNat_eq
 simp[BitVec.toNat_ofInt]
theorem w64n(a:Nat)(h:a<9223372036854775808):IntKind.i64.wrap (a:Int)=a:=by
 have h1:((a:Int)% 2^64)=a:=Int.emod_eq_of_lt (by omega) (by omega)
 have h2:¬((a:Int)≥2^(64-1)):=by omega
 simp only[IntKind.wrap,IntKind.signed,IntKind.bits,h1,h2,decide_false,Bool.and_false,Bool.false_eq_true,if_false]
theorem u8w(a:Nat)(h:a<256):IntKind.u8.wrap (a:Int)=a:=by
 have h1:((a:Int)% 2^8)=a:=Int.emod_eq_of_lt (by omega) (by omega)
 simp only[IntKind.wrap,IntKind.signed,IntKind.bits,h1,Bool.false_and,Bool.false_eq_true,if_false]
theorem w32{n:Int}(h: -2147483648≤n)(k:n≤2147483647):IntKind.i32.wrap n=n:=by
 unfold IntKind.wrap
 simp only[IntKind.signed,IntKind.bits,Bool.true_and]
 split
 ·rename_i hx;simp at hx;omega
 ·rename_i hx;simp at hx;omega
end Go.Abs
set_option maxRecDepth 100000
namespace Go.Abs
variable [Tab]
theorem zz:((((((((type_of% @srcC.eq_1)∧(type_of% @srcC.eq_2))∧((type_of% @AV.growable.eq_1)∧(type_of% @AV.growable.eq_2)))∧(((type_of% @AV.growable.eq_3)∧(type_of% @AV.owned.eq_1))∧((type_of% @AV.owned.eq_2)∧(type_of% @evalC.eq_1))))∧((((type_of% @evalC.eq_2)∧(type_of% @evalC.eq_3))∧((type_of% @evalC.eq_4)∧(type_of% @evalC.eq_5)))∧(((type_of% @evalC.eq_6)∧(type_of% @evalC.eq_7))∧((type_of% @evalC.eq_8)∧(type_of% @evalR.eq_1)))))∧(((((type_of% @evalR.eq_2)∧(type_of% @runOps.eq_1))∧((type_of% @runOps.eq_2)∧(type_of% @stepOp.eq_1)))∧(((type_of% @wanted.eq_1)∧(type_of% @wanted.eq_2))∧((type_of% @aop.eq_1)∧(type_of% @aop.eq_2))))∧((((type_of% @aop.eq_3)∧(type_of% @aop.eq_4))∧((type_of% @aop.eq_5)∧(type_of% @aop.eq_6)))∧(((type_of% @aop.eq_7)∧(type_of% @aop.eq_8))∧((type_of% @aop.eq_9)∧((type_of% @aop.eq_10)∧(type_of% @aop.eq_11)))))))∧((((((type_of% @aop.eq_12)∧(type_of% @aop.eq_13))∧((type_of% @aop.eq_14)∧(type_of% @aop.eq_15)))∧(((type_of% @aop.eq_16)∧(type_of% @aop.eq_17))∧((type_of% @aop.eq_18)∧(type_of% @aop.eq_19))))∧((((type_of% @aop.eq_20)∧(type_of% @aop.eq_21))∧((type_of% @aop.eq_22)∧(type_of% @aop.eq_23)))∧(((type_of% @aop.eq_24)∧(type_of% @aop.eq_25))∧((type_of% @aop.eq_26)∧(type_of% @aop.eq_27)))))∧(((((type_of% @aop.eq_28)∧(type_of% @aop.eq_29))∧((type_of% @aop.eq_30)∧(type_of% @aop.eq_31)))∧(((type_of% @aop.eq_32)∧(type_of% @aop.eq_33))∧((type_of% @aop.eq_34)∧(type_of% @aop.eq_35))))∧((((type_of% @aop.eq_36)∧(type_of% @aop.eq_37))∧((type_of% @aop.eq_38)∧(type_of% @aop.eq_45)))∧(((type_of% @aop.eq_46)∧(type_of% @aop.eq_47))∧((type_of% @aop.eq_48)∧((type_of% @aop.eq_49)∧(type_of% @aop.eq_50))))))))∧(((((((type_of% @aop.eq_51)∧(type_of% @aop.eq_52))∧((type_of% @aop.eq_53)∧(type_of% @evx.eq_1)))∧(((type_of% @evx.eq_2)∧(type_of% @put.eq_1))∧((type_of% @put.eq_2)∧(type_of% @unflag.eq_1))))∧((((type_of% @unflag.eq_2)∧(type_of% @binV.eq_1))∧((type_of% @binV.eq_2)∧(type_of% @binV.eq_3)))∧(((type_of% @binV.eq_4)∧(type_of% @binV.eq_5))∧((type_of% @binV.eq_6)∧(type_of% @binV.eq_7)))))∧(((((type_of% @binV.eq_8)∧(type_of% @binV.eq_9))∧((type_of% @binV.eq_10)∧(type_of% @binV.eq_11)))∧(((type_of% @binV.eq_12)∧(type_of% @nilEq.eq_1))∧((type_of% @nilEq.eq_2)∧(type_of% @nilEq.eq_3))))∧((((type_of% @nilEq.eq_4)∧(type_of% @nilEq.eq_5))∧((type_of% @nilEq.eq_6)∧(type_of% @nilEq.eq_7)))∧(((type_of% @nilEq.eq_8)∧(type_of% @nilEq.eq_9))∧((type_of% @nilEq.eq_10)∧((type_of% @nilEq.eq_11)∧(type_of% @nilEq.eq_12)))))))∧((((((type_of% @nilEq.eq_13)∧(type_of% @nilEq.eq_14))∧((type_of% @nilEq.eq_15)∧(type_of% @isShift.eq_1)))∧(((type_of% @isShift.eq_2)∧(type_of% @isShift.eq_3))∧((type_of% @binStr.eq_1)∧(type_of% @binStr.eq_2))))∧((((type_of% @binStr.eq_3)∧(type_of% @binStr.eq_4))∧((type_of% @binStr.eq_5)∧(type_of% @binStr.eq_6)))∧(((type_of% @binStr.eq_7)∧(type_of% @binStr.eq_8))∧((type_of% @unV.eq_1)∧(type_of% @unV.eq_2)))))∧(((((type_of% @unV.eq_3)∧(type_of% @unV.eq_4))∧((type_of% @AV.elems.eq_1)∧(type_of% @AV.elems.eq_2)))∧(((type_of% @AV.elems.eq_3)∧(type_of% @AV.elems.eq_4))∧((type_of% @AV.int?.eq_1)∧(type_of% @AV.int?.eq_2))))∧((((type_of% @AV.toD.eq_1)∧(type_of% @AV.toD.eq_2))∧((type_of% @AV.toD.eq_3)∧(type_of% @AV.toD.eq_4)))∧(((type_of% @AV.toD.eq_5)∧(type_of% @AV.toDs.eq_1))∧((type_of% @AV.toDs.eq_2)∧((type_of% @AV.mkAgg.eq_1)∧(type_of% @AV.pures.eq_1)))))))))∧((((((((type_of% @AV.pures.eq_2)∧(type_of% @AV.pures.eq_3))∧((type_of% @AV.cells.eq_1)∧(type_of% @AV.cells.eq_2)))∧(((type_of% @AV.cells.eq_3)∧(type_of% @D.cells.eq_1))∧((type_of% @D.cells.eq_2)∧(type_of% @AV.isCell.eq_1))))∧((((type_of% @AV.isCell.eq_2)∧(type_of% @AV.isCell.eq_3))∧((type_of% @AV.isCell.eq_4)∧(type_of% @AV.isCell.eq_5)))∧(((type_of% @AV.isCell.eq_6)∧(type_of% @D.isCell.eq_1))∧((type_of% @D.isCell.eq_2)∧(type_of% @readCells.eq_1)))))∧(((((type_of% @readD.eq_1)∧(type_of% @optInt.eq_1))∧((type_of% @optInt.eq_2)∧(type_of% @fill.eq_1)))∧(((type_of% @fill.eq_2)∧(type_of% @splice.eq_1))∧((type_of% @srcOf.eq_1)∧(type_of% @srcOf.eq_2))))∧((((type_of% @srcOf.eq_3)∧(type_of% @srcOf.eq_4))∧((type_of% @srcOf.eq_5)∧(type_of% @srcOf.eq_6)))∧(((type_of% @List.contains.eq_1.{0})∧(type_of% @List.elem.eq_1.{0}))∧((type_of% @List.elem.eq_2.{0})∧((type_of% @Option.map.eq_1.{0,0})∧(type_of% @Option.map.eq_2.{0,0})))))))∧((((((type_of% @intD.eq_1)∧(type_of% @boolD.eq_1))∧((type_of% @bD.eq_1)∧(type_of% @forgetT.eq_1)))∧(((type_of% @forgetT.eq_2)∧(type_of% @chunks.eq_1))∧((type_of% @chunks.eq_2)∧(type_of% @eq_self.{1}))))∧((((type_of% @QcK)∧(type_of% @List.getD_cons_succ.{0}))∧((type_of% @List.getD_cons_zero.{0})∧(type_of% @List.set_cons_succ.{0})))∧(((type_of% @List.set_cons_zero.{0})∧(type_of% @List.getElem?_cons_succ.{0}))∧((type_of% @List.getElem?_cons_zero.{0})∧(type_of% @List.map_cons.{0,0})))))∧(((((type_of% @List.map_nil.{0,0})∧(type_of% @List.take_succ_cons.{0}))∧((type_of% @List.take_zero.{0})∧(type_of% @List.drop_succ_cons.{0})))∧(((type_of% @List.drop_zero.{0})∧(type_of% @List.length_cons.{0}))∧((type_of% @List.length_nil.{0})∧(type_of% @List.length_append.{0}))))∧((((type_of% @List.length_set.{0})∧(type_of% @List.all_cons.{0}))∧((type_of% @List.all_nil.{0})∧(type_of% @List.nil_append.{0})))∧(((type_of% @List.cons_append.{0})∧(type_of% @List.append_nil.{0}))∧((type_of% @Bool.false_eq_true)∧((type_of% @Bool.true_eq_false)∧(type_of% @Nat.add_zero))))))))∧(((((((type_of% @Nat.zero_add)∧(type_of% @Nat.zero_mul))∧((type_of% @Nat.mul_zero)∧(type_of% @beq_self_eq_true.{0})))∧(((type_of% @bne_self_eq_false.{0})∧(type_of% @Bool.not_false))∧((type_of% @Bool.not_true)∧(type_of% @Bool.and_true))))∧((((type_of% @Bool.and_self)∧(type_of% @Bool.and_false))∧((type_of% @Bool.false_and)∧(type_of% @Bool.true_and)))∧(((type_of% @Bool.or_true)∧(type_of% @Bool.or_false))∧((type_of% @Bool.true_or)∧(type_of% @Bool.false_or)))))∧(((((type_of% @decide_true)∧(type_of% @decide_false))∧((type_of% @Bool.true_beq)∧(type_of% @Bool.false_beq)))∧(((type_of% @Qbr)∧(type_of% @Qlz))∧((type_of% @and_self)∧(type_of% @and_true))))∧((((type_of% @true_and)∧(type_of% @Nat.le_refl))∧((type_of% @Int.toNat_natCast)∧(type_of% @Nat.min_self)))∧(((type_of% @dite_true.{1})∧(type_of% @QhV))∧((type_of% @nat0)∧((type_of% @Int.le_refl)∧(type_of% @Int.toNat_zero)))))))∧((((((type_of% @Qds)∧(type_of% @Option.map_some.{0,0}))∧((type_of% @Option.map_none.{0,0})∧(type_of% @List.getElem?_map.{0,0})))∧(((type_of% @List.flatten_cons.{0})∧(type_of% @List.flatten_nil.{0}))∧((type_of% @Qh1)∧(type_of% @QgQ))))∧((((type_of% @QaE)∧(type_of% @if_true.{1}))∧((type_of% @if_false.{1})∧(type_of% @b_lss)))∧(((type_of% @b_leq)∧(type_of% @b_geq))∧((type_of% @b_gtr)∧(type_of% @b_eql)))))∧(((((type_of% @b_neq)∧(type_of% @b_add))∧((type_of% @b_sub)∧(type_of% @b_mul)))∧(((type_of% @Qos)∧(type_of% @len_sl))∧((type_of% @Qot)∧(type_of% @uf0))))∧((((type_of% @uf1)∧(type_of% @uf2))∧((type_of% @uf3)∧(type_of% @uf4)))∧(((type_of% @uf5)∧(type_of% @uf6))∧((type_of% @uf7)∧((type_of% @uf8)∧(type_of% @uf9))))))))):=⟨⟨⟨⟨⟨⟨⟨⟨@srcC.eq_1,@srcC.eq_2⟩,⟨@AV.growable.eq_1,@AV.growable.eq_2⟩⟩,⟨⟨@AV.growable.eq_3,@AV.owned.eq_1⟩,⟨@AV.owned.eq_2,@evalC.eq_1⟩⟩⟩,⟨⟨⟨@evalC.eq_2,@evalC.eq_3⟩,⟨@evalC.eq_4,@evalC.eq_5⟩⟩,⟨⟨@evalC.eq_6,@evalC.eq_7⟩,⟨@evalC.eq_8,@evalR.eq_1⟩⟩⟩⟩,⟨⟨⟨⟨@evalR.eq_2,@runOps.eq_1⟩,⟨@runOps.eq_2,@stepOp.eq_1⟩⟩,⟨⟨@wanted.eq_1,@wanted.eq_2⟩,⟨@aop.eq_1,@aop.eq_2⟩⟩⟩,⟨⟨⟨@aop.eq_3,@aop.eq_4⟩,⟨@aop.eq_5,@aop.eq_6⟩⟩,⟨⟨@aop.eq_7,@aop.eq_8⟩,⟨@aop.eq_9,⟨@aop.eq_10,@aop.eq_11⟩⟩⟩⟩⟩⟩,⟨⟨⟨⟨⟨@aop.eq_12,@aop.eq_13⟩,⟨@aop.eq_14,@aop.eq_15⟩⟩,⟨⟨@aop.eq_16,@aop.eq_17⟩,⟨@aop.eq_18,@aop.eq_19⟩⟩⟩,⟨⟨⟨@aop.eq_20,@aop.eq_21⟩,⟨@aop.eq_22,@aop.eq_23⟩⟩,⟨⟨@aop.eq_24,@aop.eq_25⟩,⟨@aop.eq_26,@aop.eq_27⟩⟩⟩⟩,⟨⟨⟨⟨@aop.eq_28,@aop.eq_29⟩,⟨@aop.eq_30,@aop.eq_31⟩⟩,⟨⟨@aop.eq_32,@aop.eq_33⟩,⟨@aop.eq_34,@aop.eq_35⟩⟩⟩,⟨⟨⟨@aop.eq_36,@aop.eq_37⟩,⟨@aop.eq_38,@aop.eq_45⟩⟩,⟨⟨@aop.eq_46,@aop.eq_47⟩,⟨@aop.eq_48,⟨@aop.eq_49,@aop.eq_50⟩⟩⟩⟩⟩⟩⟩,⟨⟨⟨⟨⟨⟨@aop.eq_51,@aop.eq_52⟩,⟨@aop.eq_53,@evx.eq_1⟩⟩,⟨⟨@evx.eq_2,@put.eq_1⟩,⟨@put.eq_2,@unflag.eq_1⟩⟩⟩,⟨⟨⟨@unflag.eq_2,@binV.eq_1⟩,⟨@binV.eq_2,@binV.eq_3⟩⟩,⟨⟨@binV.eq_4,@binV.eq_5⟩,⟨@binV.eq_6,@binV.eq_7⟩⟩⟩⟩,⟨⟨⟨⟨@binV.eq_8,@binV.eq_9⟩,⟨@binV.eq_10,@binV.eq_11⟩⟩,⟨⟨@binV.eq_12,@nilEq.eq_1⟩,⟨@nilEq.eq_2,@nilEq.eq_3⟩⟩⟩,⟨⟨⟨@nilEq.eq_4,@nilEq.eq_5⟩,⟨@nilEq.eq_6,@nilEq.eq_7⟩⟩,⟨⟨@nilEq.eq_8,@nilEq.eq_9⟩,⟨@nilEq.eq_10,⟨@nilEq.eq_11,@nilEq.eq_12⟩⟩⟩⟩⟩⟩,⟨⟨⟨⟨⟨@nilEq.eq_13,@nilEq.eq_14⟩,⟨@nilEq.eq_15,@isShift.eq_1⟩⟩,⟨⟨@isShift.eq_2,@isShift.eq_3⟩,⟨@binStr.eq_1,@binStr.eq_2⟩⟩⟩,⟨⟨⟨@binStr.eq_3,@binStr.eq_4⟩,⟨@binStr.eq_5,@binStr.eq_6⟩⟩,⟨⟨@binStr.eq_7,@binStr.eq_8⟩,⟨@unV.eq_1,@unV.eq_2⟩⟩⟩⟩,⟨⟨⟨⟨@unV.eq_3,@unV.eq_4⟩,⟨@AV.elems.eq_1,@AV.elems.eq_2⟩⟩,⟨⟨@AV.elems.eq_3,@AV.elems.eq_4⟩,⟨@AV.int?.eq_1,@AV.int?.eq_2⟩⟩⟩,⟨⟨⟨@AV.toD.eq_1,@AV.toD.eq_2⟩,⟨@AV.toD.eq_3,@AV.toD.eq_4⟩⟩,⟨⟨@AV.toD.eq_5,@AV.toDs.eq_1⟩,⟨@AV.toDs.eq_2,⟨@AV.mkAgg.eq_1,@AV.pures.eq_1⟩⟩⟩⟩⟩⟩⟩⟩,⟨⟨⟨⟨⟨⟨⟨@AV.pures.eq_2,@AV.pures.eq_3⟩,⟨@AV.cells.eq_1,@AV.cells.eq_2⟩⟩,⟨⟨@AV.cells.eq_3,@D.cells.eq_1⟩,⟨@D.cells.eq_2,@AV.isCell.eq_1⟩⟩⟩,⟨⟨⟨@AV.isCell.eq_2,@AV.isCell.eq_3⟩,⟨@AV.isCell.eq_4,@AV.isCell.eq_5⟩⟩,⟨⟨@AV.isCell.eq_6,@D.isCell.eq_1⟩,⟨@D.isCell.eq_2,@readCells.eq_1⟩⟩⟩⟩,⟨⟨⟨⟨@readD.eq_1,@optInt.eq_1⟩,⟨@optInt.eq_2,@fill.eq_1⟩⟩,⟨⟨@fill.eq_2,@splice.eq_1⟩,⟨@srcOf.eq_1,@srcOf.eq_2⟩⟩⟩,⟨⟨⟨@srcOf.eq_3,@srcOf.eq_4⟩,⟨@srcOf.eq_5,@srcOf.eq_6⟩⟩,⟨⟨@List.contains.eq_1.{0},@List.elem.eq_1.{0}⟩,⟨@List.elem.eq_2.{0},⟨@Option.map.eq_1.{0,0},@Option.map.eq_2.{0,0}⟩⟩⟩⟩⟩⟩,⟨⟨⟨⟨⟨@intD.eq_1,@boolD.eq_1⟩,⟨@bD.eq_1,@forgetT.eq_1⟩⟩,⟨⟨@forgetT.eq_2,@chunks.eq_1⟩,⟨@chunks.eq_2,@eq_self.{1}⟩⟩⟩,⟨⟨⟨@QcK,@List.getD_cons_succ.{0}⟩,⟨@List.getD_cons_zero.{0},@List.set_cons_succ.{0}⟩⟩,⟨⟨@List.set_cons_zero.{0},@List.getElem?_cons_succ.{0}⟩,⟨@List.getElem?_cons_zero.{0},@List.map_cons.{0,0}⟩⟩⟩⟩,⟨⟨⟨⟨@List.map_nil.{0,0},@List.take_succ_cons.{0}⟩,⟨@List.take_zero.{0},@List.drop_succ_cons.{0}⟩⟩,⟨⟨@List.drop_zero.{0},@List.length_cons.{0}⟩,⟨@List.length_nil.{0},@List.length_append.{0}⟩⟩⟩,⟨⟨⟨@List.length_set.{0},@List.all_cons.{0}⟩,⟨@List.all_nil.{0},@List.nil_append.{0}⟩⟩,⟨⟨@List.cons_append.{0},@List.append_nil.{0}⟩,⟨@Bool.false_eq_true,⟨@Bool.true_eq_false,@Nat.add_zero⟩⟩⟩⟩⟩⟩⟩,⟨⟨⟨⟨⟨⟨@Nat.zero_add,@Nat.zero_mul⟩,⟨@Nat.mul_zero,@beq_self_eq_true.{0}⟩⟩,⟨⟨@bne_self_eq_false.{0},@Bool.not_false⟩,⟨@Bool.not_true,@Bool.and_true⟩⟩⟩,⟨⟨⟨@Bool.and_self,@Bool.and_false⟩,⟨@Bool.false_and,@Bool.true_and⟩⟩,⟨⟨@Bool.or_true,@Bool.or_false⟩,⟨@Bool.true_or,@Bool.false_or⟩⟩⟩⟩,⟨⟨⟨⟨@decide_true,@decide_false⟩,⟨@Bool.true_beq,@Bool.false_beq⟩⟩,⟨⟨@Qbr,@Qlz⟩,⟨@and_self,@and_true⟩⟩⟩,⟨⟨⟨@true_and,@Nat.le_refl⟩,⟨@Int.toNat_natCast,@Nat.min_self⟩⟩,⟨⟨@dite_true.{1},@QhV⟩,⟨@nat0,⟨@Int.le_refl,@Int.toNat_zero⟩⟩⟩⟩⟩⟩,⟨⟨⟨⟨⟨@Qds,@Option.map_some.{0,0}⟩,⟨@Option.map_none.{0,0},@List.getElem?_map.{0,0}⟩⟩,⟨⟨@List.flatten_cons.{0},@List.flatten_nil.{0}⟩,⟨@Qh1,@QgQ⟩⟩⟩,⟨⟨⟨@QaE,@if_true.{1}⟩,⟨@if_false.{1},@b_lss⟩⟩,⟨⟨@b_leq,@b_geq⟩,⟨@b_gtr,@b_eql⟩⟩⟩⟩,⟨⟨⟨⟨@b_neq,@b_add⟩,⟨@b_sub,@b_mul⟩⟩,⟨⟨@Qos,@len_sl⟩,⟨@Qot,@uf0⟩⟩⟩,⟨⟨⟨@uf1,@uf2⟩,⟨@uf3,@uf4⟩⟩,⟨⟨@uf5,@uf6⟩,⟨@uf7,⟨@uf8,@uf9⟩⟩⟩⟩⟩⟩⟩⟩⟩
theorem zd:(((((type_of% @drawOK.eq_1)∧(type_of% @chainOK.eq_1))∧((type_of% @chainOK.eq_2)∧((type_of% @chainOK.eq_3)∧(type_of% @thin.eq_1))))∧(((type_of% @inertAt.eq_1)∧(type_of% @inertRec.eq_1))∧((type_of% @inertRec.eq_2)∧((type_of% @inertRec.eq_3)∧(type_of% @traceOps.eq_1)))))∧((((type_of% @traceOps.eq_2)∧(type_of% @stepRec.eq_1))∧((type_of% @explore.eq_1)∧((type_of% @explore.eq_2)∧(type_of% @runAt.eq_1))))∧(((type_of% @mayStand.eq_1)∧(type_of% @panR.eq_1))∧((type_of% @panR.eq_2)∧((type_of% @panO.eq_1)∧(type_of% @panOps.eq_1))))))∧(((((type_of% @panOps.eq_2)∧(type_of% @traceP.eq_1))∧((type_of% @traceP.eq_2)∧((type_of% @exploreP.eq_1)∧(type_of% @exploreP.eq_2))))∧(((type_of% @panAt.eq_1)∧(type_of% @pvBeq.eq_1))∧((type_of% @COper.may.eq_1)∧((type_of% @List.filter_cons.{0})∧(type_of% @List.filter_nil.{0})))))∧((((type_of% @AV.beq_self)∧(type_of% @QcS))∧((type_of% @Option.isSome_some.{0})∧((type_of% @List.contains_cons.{0})∧(type_of% @List.contains_nil.{0}))))∧(((type_of% @Prod.mk.injEq.{0,0})∧(type_of% @QlK))∧((type_of% @D.beq_self)∧((type_of% @List.any_cons.{0})∧(type_of% @List.any_nil.{0})))))):=⟨⟨⟨⟨⟨@drawOK.eq_1,@chainOK.eq_1⟩,⟨@chainOK.eq_2,⟨@chainOK.eq_3,@thin.eq_1⟩⟩⟩,⟨⟨@inertAt.eq_1,@inertRec.eq_1⟩,⟨@inertRec.eq_2,⟨@inertRec.eq_3,@traceOps.eq_1⟩⟩⟩⟩,⟨⟨⟨@traceOps.eq_2,@stepRec.eq_1⟩,⟨@explore.eq_1,⟨@explore.eq_2,@runAt.eq_1⟩⟩⟩,⟨⟨@mayStand.eq_1,@panR.eq_1⟩,⟨@panR.eq_2,⟨@panO.eq_1,@panOps.eq_1⟩⟩⟩⟩⟩,⟨⟨⟨⟨@panOps.eq_2,@traceP.eq_1⟩,⟨@traceP.eq_2,⟨@exploreP.eq_1,@exploreP.eq_2⟩⟩⟩,⟨⟨@panAt.eq_1,@pvBeq.eq_1⟩,⟨@COper.may.eq_1,⟨@List.filter_cons.{0},@List.filter_nil.{0}⟩⟩⟩⟩,⟨⟨⟨@AV.beq_self,@QcS⟩,⟨@Option.isSome_some.{0},⟨@List.contains_cons.{0},@List.contains_nil.{0}⟩⟩⟩,⟨⟨@Prod.mk.injEq.{0,0},@QlK⟩,⟨@D.beq_self,⟨@List.any_cons.{0},@List.any_nil.{0}⟩⟩⟩⟩⟩⟩
theorem zp:(((((type_of% @seqK.eq_1)∧(type_of% @seqK.eq_2))∧((type_of% @seqK.eq_3)∧((type_of% @blockK.eq_1)∧(type_of% @blockK.eq_2))))∧(((type_of% @blockK.eq_3)∧((type_of% @loopK.eq_1)∧(type_of% @loopK.eq_2)))∧((type_of% @loopK.eq_3)∧((type_of% @onlyK.eq_1)∧(type_of% @onlyK.eq_2)))))∧((((type_of% @onlyK.eq_3)∧(type_of% @seqV.eq_1))∧((type_of% @seqV.eq_2)∧((type_of% @seqV.eq_3)∧(type_of% @forgetT.eq_1))))∧(((type_of% @forgetT.eq_2)∧((type_of% @put.eq_1)∧(type_of% @put.eq_2)))∧((type_of% @unflag.eq_1)∧((type_of% @unflag.eq_2)∧(type_of% @evx.eq_1))))))∧(((((type_of% @evx.eq_2)∧(type_of% @List.contains.eq_1.{0}))∧((type_of% @List.elem.eq_1.{0})∧((type_of% @List.elem.eq_2.{0})∧(type_of% @boolD.eq_1))))∧(((type_of% @List.set_cons_succ.{0})∧((type_of% @List.set_cons_zero.{0})∧(type_of% @List.getD_cons_succ.{0})))∧((type_of% @List.getD_cons_zero.{0})∧((type_of% @uf0)∧(type_of% @uf1)))))∧((((type_of% @uf2)∧((type_of% @uf3)∧(type_of% @uf4)))∧((type_of% @uf5)∧((type_of% @uf6)∧(type_of% @uf7))))∧(((type_of% @uf8)∧((type_of% @uf9)∧(type_of% @if_true.{1})))∧((type_of% @if_false.{1})∧((type_of% @Bool.false_eq_true)∧(type_of% @eq_self.{1})))))):=⟨⟨⟨⟨⟨@seqK.eq_1,@seqK.eq_2⟩,⟨@seqK.eq_3,⟨@blockK.eq_1,@blockK.eq_2⟩⟩⟩,⟨⟨@blockK.eq_3,⟨@loopK.eq_1,@loopK.eq_2⟩⟩,⟨@loopK.eq_3,⟨@onlyK.eq_1,@onlyK.eq_2⟩⟩⟩⟩,⟨⟨⟨@onlyK.eq_3,@seqV.eq_1⟩,⟨@seqV.eq_2,⟨@seqV.eq_3,@forgetT.eq_1⟩⟩⟩,⟨⟨@forgetT.eq_2,⟨@put.eq_1,@put.eq_2⟩⟩,⟨@unflag.eq_1,⟨@unflag.eq_2,@evx.eq_1⟩⟩⟩⟩⟩,⟨⟨⟨⟨@evx.eq_2,@List.contains.eq_1.{0}⟩,⟨@List.elem.eq_1.{0},⟨@List.elem.eq_2.{0},@boolD.eq_1⟩⟩⟩,⟨⟨@List.set_cons_succ.{0},⟨@List.set_cons_zero.{0},@List.getD_cons_succ.{0}⟩⟩,⟨@List.getD_cons_zero.{0},⟨@uf0,@uf1⟩⟩⟩⟩,⟨⟨⟨@uf2,⟨@uf3,@uf4⟩⟩,⟨@uf5,⟨@uf6,@uf7⟩⟩⟩,⟨⟨@uf8,⟨@uf9,@if_true.{1}⟩⟩,⟨@if_false.{1},⟨@Bool.false_eq_true,@eq_self.{1}⟩⟩⟩⟩⟩⟩
end Go.Abs
namespace Go.Abs
variable [Tab] {X:Nat→Qbk} {XP:Nat→Qfw} {f lim:Nat} {a:List AV} {H:Qaa} {ε α:Type} {P:ε→PV}
theorem Fv.okP{x:Except ε α}{V:α→AV}{G:α→Qaa}{q:α}
  (h:Fv X XP f lim a H (fun v H'=>∃q,x= .ok q∧v=V q∧H'=G q) (fun z=>∃e,x= .error e∧z=P e))(hx:x= .ok q):Ev X f lim a H (V q) (G q):=by
 unfold Fv at h
 rcases h with h|⟨z,_,e,h,_⟩
 ·unfold Fn at h
  obtain⟨v,H',h1,q',h2,rfl,rfl⟩:=h
  rw[hx]at h2;cases h2;exact h1
 ·rw[hx]at h;cases h
theorem Fv.noP{x:Except ε α}{V:α→AV}{G:α→Qaa}{e:ε}
  (h:Fv X XP f lim a H (fun v H'=>∃q,x= .ok q∧v=V q∧H'=G q) (fun z=>∃e,x= .error e∧z=P e))(hx:x= .error e):EvP XP f lim a H (P e):=by
 unfold Fv at h
 rcases h with h|⟨z,h1,e',h,rfl⟩
 ·unfold Fn at h
  obtain⟨v,H',h1,q',h2,rfl,rfl⟩:=h
  rw[hx]at h2;cases h2
 ·rw[hx]at h;cases h;exact h1
theorem Fv.pair{β:Type}{x:Except ε (α×β)}{V:α→AV}{G:β→Qaa}
  (h:Fv X XP f lim a H (fun v H'=>∃j q,x= .ok (j,q)∧v=V j∧H'=G q) (fun z=>∃e,x= .error e∧z=P e)):
  Fv X XP f lim a H (fun v H'=>∃y,x= .ok y∧v=V y.1∧H'=G y.2) (fun z=>∃e,x= .error e∧z=P e):=
 h.mono (fun _ _ ⟨j,q,h1,h2,h3⟩=>⟨(j,q),h1,h2,h3⟩) fun _ h=>h
theorem Fv.okJ{β:Type}{x:Except ε (α×β)}{V:α→AV}{G:β→Qaa}{j:α}{q:β}
 (h:Fv X XP f lim a H (fun v H'=>∃j q,x= .ok (j,q)∧v=V j∧H'=G q) (fun z=>∃e,x= .error e∧z=P e))(hx:x= .ok (j,q)):Ev X f lim a H (V j) (G q):=h.pair.okP hx
theorem Fv.noJ{β:Type}{x:Except ε (α×β)}{V:α→AV}{G:β→Qaa}{e:ε}
 (h:Fv X XP f lim a H (fun v H'=>∃j q,x= .ok (j,q)∧v=V j∧H'=G q) (fun z=>∃e,x= .error e∧z=P e))(hx:x= .error e):EvP XP f lim a H (P e):=h.pair.noP hx
theorem Evl.panN [hp:Parts X XP]{v:PV}{P:Nat→Prop}(e:EvP XP f lim a H v)(h:Evl fun k=>(XP k f lim a H=some v∧X k f lim a H=none)→P k):Evl P:=
 Evl.pan e (by
  obtain⟨k0,h⟩:=h
  exact⟨k0,fun k hk h1=>h k hk ⟨h1,hp.disj k _ _ _ _ _ h1⟩⟩)
end Go.Abs
namespace Go.Abs
open Go.RowKit
section
variable [Tab] [Dfr] {P:Program} {tk:FuncId→Nat→Bool} {pf:FuncId→Bool} {X:Nat→Qbk} {XP:Nat→Qfw} {g:Gh} {w:World} {st:St} {a:Act} {Q:Exit→Act→World→Prop} {lim:Nat}
structure EnvS (P:Program) (pf:FuncId→Bool) (X:Nat→Qbk) (XP:Nat→Qfw):Prop where
 mx:P.follows .mixedOrders=true
 e:∀k,QcP P (X k)
 p:∀k f,PSound P f (XP k f)
 pf:∀k f lim a H v,XP k f lim a H=some v→pf f=true
theorem QeX(hS:EnvS P pf X XP){kp:List Nat}{c:Code}{cc:CCode}(hc:Qab P tk kp c=some cc)(hk:panCk pf cc=true)(hinv:Inv g st a w)(hlim:lim≤st.H.length){Qa:AExit→St→Prop}{Ra:PV→Prop}
  (hV:V X XP lim cc st Qa Ra)(hq:∀x st' g' a' w',Qa x st'→WF g w g' w'→Inv g' st' a' w'→Ext lim st.H st'.H→Q x.exit' a' w')(hr:∀p,Ra p→PanQ g w lim st.H p Q):c.wp P Q a w:=by
 unfold V at hV
 rcases hV with h|h
 ·obtain⟨e,st',⟨k0,h⟩,hqa⟩:=Qpg h
  exact Qar (hS.e k0) (Qfq hS.mx (hS.e k0)) (fun body s r h=>⟨k0,h⟩) c cc hc hinv hlim (h k0 k0 (Nat.le_refl _) (Nat.le_refl _)) fun g' a' w' h1 h2 h3=>hq e st' g' a' w' hqa h1 h2 h3
 ·unfold WP at h
  obtain⟨p,⟨k0,h⟩,hra⟩:=h
  exact QaV (hS.e k0) (Qfq hS.mx (hS.e k0)) (hS.p k0) (Qjr hS.mx (hS.e k0) (hS.p k0) (hS.pf k0)) (fun body s r h=>⟨k0,h⟩) (fun body s r h=>⟨k0,h⟩) c cc hc hk hinv hlim (h k0 k0 (Nat.le_refl _) (Nat.le_refl _)) (hr p hra)
variable {w':World}
structure Frn (g:Gh) (w w':World):Prop where
 os:w'.os=w.os
 tape:w'.tape=w.tape
 output:w'.output=w.output
 size:w.heap.size≤w'.heap.size
 block:∀k,k<w.heap.size→(g.own k≠ .free∨g.bd k≠0)→w'.heap[k]? =w.heap[k]?
theorem Frn.stays(h:Frn g w w'){H:Qaa}(hH:HeapOK g H w)(b i:Nat)(hi:i<g.bd b):i<g.bd b∧QaR w' b i=QaR w b i:=
 ⟨hi,Qby (h.block b (hH.bd_lt hi) (.inr (by omega))) i⟩
theorem Frn.vr(h:Frn g w w'){H:Qaa}(hH:HeapOK g H w){x:AV}{v:Value}(hv:VR g w x v):VR g w' x v:=
 hv.mono (h.stays hH) (Nat.le_refl _) (fun _ _=>rfl) (fun _ h=>h) (fun _ _=>rfl)
theorem Frn.dr(h:Frn g w w'){H:Qaa}(hH:HeapOK g H w){x:D}{v:Value}(hv:DR g.bd w x v):DR g.bd w' x v:=hv.mono (h.stays hH)
theorem Frn.fok(h:Frn g w w'){H:Qaa}(hH:HeapOK g H w){loc:Own}(hl:loc≠ .free){x:AV}{v:Value}(hf:FOK g w loc x v):FOK g w' loc x v:=
 hf.keep fun b hb=>⟨hb,rfl,fun cs e fr hh hz=>⟨cs,fr,by rw[h.block b (hH.own_lt (by rw[hb];exact hl)) (.inl (by rw[hb];exact hl))];exact hh,rfl,hz⟩⟩
theorem Frn.or_(h:Frn g w w'){H:Qaa}(hH:HeapOK g H w){r:Nat}{o:AObj}(hr:r<g.n)(ha:o≠ .dead→g.own (g.rho r)= .obj r)(ho:OR g w r o):OR g w' r o:=by
 have hb:o≠ .dead→w'.heap[g.rho r]? =w.heap[g.rho r]? :=fun hd=>h.block _ (hH.own_lt (by rw[ha hd];simp)) (.inl (by rw[ha hd];simp))
 cases o with
 |cells cs=>
  obtain⟨vs,e,fr,h1,h2,h3,h4,h5⟩:=ho
  exact⟨vs,e,fr,by rw[hb (by simp)];exact h1,h2,h3,h4,fun j c v hj hv=>⟨h.vr hH (h5 j c v hj hv).1,h.fok hH (by simp) (h5 j c v hj hv).2⟩⟩
 |map kk es=>
  obtain⟨ms,clk,h1,h2,h3⟩:=ho
  refine⟨ms,clk,by rw[hb (by simp)];exact h1,h2,fun i k a m hi hm=> ?_⟩
  obtain⟨q1,q2,q3,q4⟩:=h3 i k a m hi hm
  exact⟨h.dr hH q1,q2,h.vr hH q3,q4⟩
 |siter s pos=>
  obtain⟨s',h1,h2⟩:=ho
  exact⟨s',by rw[hb (by simp)];exact h1,h2⟩
 |dead=>trivial
theorem Frn.heap(h:Frn g w w'){H:Qaa}(hH:HeapOK g H w):HeapOK g H w' where
 n:=hH.n
 own:=hH.own
 obj r o ho:=by
  have hr:r<g.n:=by rw[hH.n];exact(List.getElem?_eq_some_iff.1 ho).1
  exact h.or_ hH hr (fun hd=>(hH.own r hr (Qco ho hd)).1) (hH.obj r o ho)
 new b hb:=hH.new b (Nat.le_trans h.size hb)
 glob n cs hn:=h.vr hH (hH.glob n cs hn)
theorem Frn.inv(h:Frn g w w')(hi:Inv g st a w):Inv g st a w' where
 heap:=h.heap hi.heap
 size:=hi.size
 tok i x v hx hv:=⟨h.vr hi.heap (hi.tok i x v hx hv).1,h.fok hi.heap (by simp) (hi.tok i x v hx hv).2⟩
 nores:=hi.nores
 defers:=hi.defers
theorem Frn.wf(h:Frn g w w'){g0:Gh}{w0:World}{H0:Qaa}(h0:HeapOK g0 H0 w0)(hw:WF g0 w0 g w)(hb:∀k,k<w0.heap.size→w'.heap[k]? =w.heap[k]?):WF g0 w0 g w' where
 os:=h.os.trans hw.os
 tape:=h.tape.trans hw.tape
 output:=h.output.trans hw.output
 size:=Nat.le_trans hw.size h.size
 idle b hl ho:=by
  obtain⟨h1,h2,h3⟩:=hw.idle b hl ho
  exact⟨(hb b hl).trans h1,h2,h3⟩
 stays b i hi:=by
  obtain⟨h1,h2⟩:=hw.stays b i hi
  exact⟨h1,(Qby (hb b (h0.bd_lt hi)) i).trans h2⟩
 n:=hw.n
 rho:=hw.rho
 out:=hw.out
 mine:=hw.mine
 rm:=hw.rm
theorem Inv.put(h:Inv g st a w){d:Nat}{x:AV}{v:Value}(hv:VR g w x v)(ht:Triv x v):Inv g ⟨st.T.set d x,st.H⟩ (a.put (some d) v) w where
 heap:=h.heap
 size:=by simp[Act.put,h.size]
 tok i y u hy hu:=by
  simp only[Act.put]at hy hu
  by_cases hd:d=i
  ·subst hd
   have hlt:d<st.T.length:=by have:=(List.getElem?_eq_some_iff.1 hy).1;simpa using this
   rw[List.getElem?_set_self hlt]at hy
   rw[Array.getElem?_setIfInBounds_self_of_lt (by rw[←h.size];exact hlt)]at hu
   simp at hy hu;subst hy hu
   exact⟨hv,FOK.triv ht⟩
  ·rw[List.getElem?_set_ne hd]at hy
   rw[Array.getElem?_setIfInBounds_ne hd]at hu
   exact h.tok i y u hy hu
 nores:=h.nores
 defers:=h.defers
theorem QgR{ops:Array Oper}{o:Oper}{rest:List Oper}(hg:o.guard=none){f:FuncId}{xs:Array Operand}{ts:Array TypeId}(ho:o.op= .call { callee:= .value (.func f),args:=xs,argTypes:=ts })(hf:Qii P f)
  {R:Ending→World→Prop}(hc:Calls P f (xs.map a.eval) w R)(hk:∀e w',R e w'→∃v,e= .returned v∧wpList P ops Q rest (a.put o.dst v) w'):wpList P ops Q (o::rest) a w:=by
 obtain⟨fn,hfn,hb,hname⟩:=hf
 have he:(execOp a.eval o).run P w= .ok (.enter f (xs.map a.eval)) w:=by
  have:fn.body.isNone=false:=by cases e:fn.body<;>simp_all
  obtain⟨dst,op,type,pos,after,guard⟩:=o
  simp only at ho;subst ho
  show(callFunc f (#[]++xs.map a.eval++ #[])).run P w=_
  simp only[callFunc,Sem.run_bind,run_program,Result.andThen_ok,hfn,hname,this]
  simp
 refine wpList_plain hg fun K hK=> ?_
 unfold Oper.wp
 rw[he,Oper.upon_enter]
 refine hc.mono fun e w' hr=> ?_
 obtain⟨v,rfl,h⟩:=hk e w' hr
 exact hK _ _ h
theorem QbF{ops:Array Oper}{o:Oper}{rest:List Oper}{E:Qbk}{c:COper}(hc:Qal P tk ops.toList o=some c)(hE:QcP P E)(hinv:Inv g st a w)(hlim:lim≤st.H.length)
  {st':St}(hs:stepOp E lim c st=some st')(hK:∀g' a' w',WF g w g' w'→Inv g' st' a' w'→Ext lim st.H st'.H→wpList P ops Q rest a' w'):wpList P ops Q (o::rest) a w:=by
 simp only[wpList]
 exact Qcr hc hE hinv hlim hs hK
def Gh.dead2(g:Gh)(b:Nat):Gh:= { g with rho:=fun r=>if r=g.n then b else g.rho r,n:=g.n+1 }
theorem Qil(g:Gh)(w:World)(b:Nat):WF g w (g.dead2 b) w where
 os:=rfl
 tape:=rfl
 output:=rfl
 size:=Nat.le_refl _
 idle _ _ _:=⟨rfl,rfl,rfl⟩
 stays _ _ h:=⟨h,rfl⟩
 n:=Nat.le_succ _
 rho r hr:=by simp[Gh.dead2,Nat.ne_of_lt hr]
 out _ h:=h
 mine _ h:=h
theorem QmX{H:Qaa}(h:HeapOK g H w)(b:Nat):HeapOK (g.dead2 b) (H++ [.dead]) w where
 n:=by simp[Gh.dead2,h.n]
 own r hr ha:=by
  have hr':r<g.n+1:=hr
  have hne:r≠g.n:=fun e=>ha (by rw[e,h.n];simp)
  have hl:r<g.n:=by omega
  have ha':Qb2 H r:=by unfold Qb2 at ha⊢;rwa [List.getElem?_append_left (by rw[←h.n];exact hl)]at ha
  simpa[Gh.dead2,hne]using h.own r hl ha'
 obj r o ho:=by
  by_cases hl:r<H.length
  ·rw[List.getElem?_append_left hl]at ho
   exact(h.obj r o ho).keep (Qil g w b) (by rw[h.n];exact hl) (fun _=>rfl) fun j a v hf=>hf.keep fun b hb=>⟨hb,rfl,fun cs e fr hh hz=>⟨cs,fr,hh,rfl,hz⟩⟩
  ·have:r<(H++ [AObj.dead]).length:=(List.getElem?_eq_some_iff.1 ho).1
   have:r=H.length:=by simp at this;omega
   subst this
   simp at ho;subst ho;trivial
 new b hb:=h.new b hb
 glob n cs hn:=(Qil g w b).vr (h.glob n cs hn)
end
theorem FSound.less [Tab]{P:Program}{f:FuncId}{F F':QbC}(h:FSound P f F)(hl:∀lim a H r,F' lim a H=some r→F lim a H=some r):FSound P f F':=
 fun lim args H a H' h1 h2=>h lim args H a H' (hl _ _ _ _ h1) h2
theorem PSound.less [Tab] [Dfr]{P:Program}{f:FuncId}{F F':QeW}(h:PSound P f F)(hl:∀lim a H r,F' lim a H=some r→F lim a H=some r):PSound P f F':=
 fun lim args H t x h1 h2=>h lim args H t x (hl _ _ _ _ h1) h2
theorem EnvS.slim [Tab]{P:Program}{pf:FuncId→Bool}{l:List (Option CFn)}{prim:FuncId→Option QbC}{primP:FuncId→Option QeW}(hmx:P.follows .mixedOrders=true)(hp:∀f F,prim f=some F→FSound P f F)(hpp:∀f F,primP f=some F→PSound P f F)(hd:Qdu prim primP)
  (hc:AllSlimP P pf 0 l):EnvS P pf (QaF (Qdx l) prim) (Qcl (Qdx l) pf prim primP):=by
 obtain⟨E,EP,h1,h2,h3,h4⟩:=slimP_ok (primP:=primP) hmx hp hpp hd hc
 exact⟨hmx,fun k f=>(h1 k f).less fun lim a H r h=>h3 k f lim a H r h,fun k f=>(h2 k f).less fun lim a H r h=>h4 k f lim a H r h,QoQ⟩
theorem Ev.out [Tab]{X:Nat→Qbk}{f lim:Nat}{a:List AV}{H H':Qaa}{v:AV}(h:Ev X f lim a H v H'):∃k0,∀k,k0≤k→X k f lim a H=some (v,H'):=by
 unfold Ev at h;exact h
end Go.Abs
namespace Go.Abs
variable [Tab]
theorem j_{a b:Prop}(x:a)(y:b):a∧b:=⟨x,y⟩
theorem w_r{F G G':Prop}(f:F)(k:G')(h:F→G'→G:=by intro f h;(repeat((first|refine W_sq ?_|refine W_bk ?_|refine W_ret ?_|refine Qph ?_|refine Qpf ?_|(apply W_rg;focus(intro _;simp only[zz,simprocAttr,f];(first|done|with_reducible exact rfl)))|(refine W_cT ?_ ?_;focus(simp only[zp,simprocAttr];done))|(refine W_cF ?_ ?_;focus(simp only[zp,simprocAttr];done)))<;>(try simp only[zp,simprocAttr])));exact h):G:=h f k
theorem w_s{F G G':Prop}(f:F)(k:G')(h:F→G'→G:=by intro f h;((first|refine W_sq ?_|refine W_bk ?_|refine W_ret ?_|refine Qph ?_|refine Qpf ?_|(apply W_rg;focus(intro _;simp only[zz,simprocAttr,f];(first|done|with_reducible exact rfl)))|(refine W_cT ?_ ?_;focus(simp only[zp,simprocAttr];done))|(refine W_cF ?_ ?_;focus(simp only[zp,simprocAttr];done)))<;>(try simp only[zp,simprocAttr]));exact h):G:=h f k
theorem v_r{F G G':Prop}(f:F)(k:G')(h:F→G'→G:=by intro f h;(repeat((first|refine Qi0 ?_|refine Qlm ?_|refine Qer ?_|refine QcN ?_|refine QcM ?_|(apply Qih;focus(intro _;simp only[zz,simprocAttr,f];(first|done|with_reducible exact rfl)))|(refine Qlk ?_ ?_;focus(simp only[zp,simprocAttr];done))|(refine Qll ?_ ?_;focus(simp only[zp,simprocAttr];done)))<;>(try simp only[zp,simprocAttr])));exact h):G:=h f k
theorem v_s{F G G':Prop}(f:F)(k:G')(h:F→G'→G:=by intro f h;((first|refine Qi0 ?_|refine Qlm ?_|refine Qer ?_|refine QcN ?_|refine QcM ?_|(apply Qih;focus(intro _;simp only[zz,simprocAttr,f];(first|done|with_reducible exact rfl)))|(refine Qlk ?_ ?_;focus(simp only[zp,simprocAttr];done))|(refine Qll ?_ ?_;focus(simp only[zp,simprocAttr];done)))<;>(try simp only[zp,simprocAttr]));exact h):G:=h f k
theorem w_1{F G G':Prop}{X1:Nat→Qbk}{f1 l1:Nat}{r1:List AV}{h1 j1:Qaa}{v1:AV}(a1:Ev X1 f1 l1 r1 h1 v1 j1)(f:F)(k:G')(h:Ev X1 f1 l1 r1 h1 v1 j1→F→G'→G:=by intro a1 f h;((apply Qpi;focus(refine Evl.call a1 (Evl.all fun k e1=> ?_);simp(maxSteps:=100000000) only[zz,zd,simprocAttr,f,e1];(first|done|with_reducible exact rfl))))<;>(try simp only[zp,simprocAttr]);exact h):G:=h a1 f k
theorem w_2{F G G':Prop}{X1:Nat→Qbk}{f1 l1:Nat}{r1:List AV}{h1 j1:Qaa}{v1:AV}{X2:Nat→Qbk}{f2 l2:Nat}{r2:List AV}{h2 j2:Qaa}{v2:AV}(a1:Ev X1 f1 l1 r1 h1 v1 j1)(a2:Ev X2 f2 l2 r2 h2 v2 j2)(f:F)(k:G')(h:Ev X1 f1 l1 r1 h1 v1 j1→Ev X2 f2 l2 r2 h2 v2 j2→F→G'→G:=by intro a1 a2 f h;((apply Qpi;focus(refine Evl.call a1 (Evl.call a2 (Evl.all fun k e2 e1=> ?_));simp(maxSteps:=100000000) only[zz,zd,simprocAttr,f,e2,e1];(first|done|with_reducible exact rfl))))<;>(try simp only[zp,simprocAttr]);exact h):G:=h a1 a2 f k
end Go.Abs
namespace Go.Proofs.YtmhmjlfajlpabaaDoor
open Go Go.Lib
def by'(s:List UInt8)(i:Nat):Nat:=match s[i]? with
 |some c=>c.toNat
 |none=>0
theorem Qo1{s:List UInt8}{i:Nat}{c:UInt8}(h:s[i]? =some c):by' s i=c.toNat:=by simp[by',h]
theorem by_lt(s:List UInt8)(i:Nat):by' s i<256:=by
 unfold by';split
 ·rename_i c _;exact c.toNat_lt
 ·omega
theorem Qhe(s:List UInt8)(i j:Nat):by' (s.drop i) j=by' s (i+j):=by simp[by',List.getElem?_drop]
theorem Qhd(s:List UInt8)(n j:Nat):by' (s.take n) j=if j<n then by' s j else 0:=by
 unfold by'
 rw[List.getElem?_take]
 by_cases h:j<n
 ·simp[h]
 ·simp[h]
def dc(s:List UInt8):Nat×Nat:=decodeN s.length (by' s 0) (by' s 1) (by' s 2) (by' s 3)
theorem Qk5(n a b c d:Nat):1≤(decodeN n a b c d).2:=by
 unfold decodeN;(repeat' split)<;>simp
theorem Qnf(n a b c d:Nat)(h:1≤n):(decodeN n a b c d).2≤n:=by
 unfold decodeN;(repeat' split)<;>simp only<;>omega
theorem QeP(s:List UInt8):1≤(dc s).2:=Qk5 ..
theorem dc_le{s:List UInt8}(h:s≠ []):(dc s).2≤s.length:=Qnf _ _ _ _ _ (by have:=List.length_pos_iff.2 h;omega)
def letsN:Nat→List UInt8→List (List UInt8)
 |0,_=> []
 |n+1,s=>if s= []then []else s.take (dc s).2::letsN n (s.drop (dc s).2)
def lets(s:List UInt8):List (List UInt8):=letsN s.length s
def let1(t:List UInt8):Int×Bool:=if dc t=(65533,1)then((by' t 0:Nat),true)else(((dc t).1:Nat),false)
def Good(t:List UInt8):Prop:=t≠ []∧(dc t).2=t.length
set_option maxRecDepth 100000 in
theorem Qj3(N a b c d:Nat)(h:1≤N):decodeN (decodeN N a b c d).2 a (if 1<(decodeN N a b c d).2 then b else 0) (if 2<(decodeN N a b c d).2 then c else 0) (if 3<(decodeN N a b c d).2 then d else 0)=decodeN N a b c d:=by
 generalize e:decodeN N a b c d=r
 unfold decodeN at e
 (repeat' split at e)<;>subst e<;>simp only[Nat.lt_irrefl,Nat.reduceLT,if_true,if_false]<;>unfold decodeN<;>(repeat' split)<;>first|rfl|(exfalso;omega)
theorem QoW{s:List UInt8}(h:s≠ []):dc (s.take (dc s).2)=dc s:=by
 have h1:=dc_le h
 have h2:=QeP s
 have h3:=List.length_pos_iff.2 h
 have e:dc (s.take (dc s).2)=decodeN (dc s).2 (by' s 0) (if 1<(dc s).2 then by' s 1 else 0) (if 2<(dc s).2 then by' s 2 else 0) (if 3<(dc s).2 then by' s 3 else 0):=by
  rw[show dc (s.take (dc s).2)=decodeN (s.take (dc s).2).length (by' (s.take (dc s).2) 0) (by' (s.take (dc s).2) 1) (by' (s.take (dc s).2) 2) (by' (s.take (dc s).2) 3)from rfl]
  rw[Qhd,Qhd,Qhd,Qhd,if_pos (show 0<(dc s).2 from h2),List.length_take,Nat.min_eq_left h1]
 rw[e]
 exact Qj3 _ _ _ _ _ h3
theorem Qm0{t:List UInt8}(h:Good t):
  (∃a,t= [a]∧a.toNat<128∧let1 t=(((a.toNat:Nat):Int),false))∨(∃a,t= [a]∧128≤a.toNat∧let1 t=(((a.toNat:Nat):Int),true))∨
  (∃a b,t= [a,b]∧a.toNat/32=6∧b.toNat/64=2∧128≤a.toNat % 32*64+b.toNat % 64∧let1 t=(((a.toNat % 32*64+b.toNat % 64:Nat):Int),false))∨
  (∃a b c,t= [a,b,c]∧a.toNat/16=14∧b.toNat/64=2∧c.toNat/64=2∧2048≤a.toNat % 16*4096+b.toNat % 64*64+c.toNat % 64∧let1 t=(((a.toNat % 16*4096+b.toNat % 64*64+c.toNat % 64:Nat):Int),false))∨
  (∃a b c d,t= [a,b,c,d]∧a.toNat/8=30∧b.toNat/64=2∧c.toNat/64=2∧d.toNat/64=2∧65536≤a.toNat % 8*262144+b.toNat % 64*4096+c.toNat % 64*64+d.toNat % 64∧let1 t=(((a.toNat % 8*262144+b.toNat % 64*4096+c.toNat % 64*64+d.toNat % 64:Nat):Int),false)):=by
 obtain⟨h0,h1⟩:=h
 have hd:dc t=decodeN t.length (by' t 0) (by' t 1) (by' t 2) (by' t 3):=rfl
 unfold let1
 unfold decodeN at hd
 rcases t with _|⟨a,t⟩
 ·exact absurd rfl h0
 have e0:by' (a::t) 0=a.toNat:=rfl
 rw[e0]at hd⊢
 have ha:=a.toNat_lt
 by_cases k0:a.toNat<128
 ·rw[if_pos k0]at hd
  rw[hd]at h1⊢
  have:t= []:=by simpa using h1
  subst this
  left
  refine⟨a,rfl,k0, ?_⟩
  rw[if_neg (by simp;omega)]
 rw[if_neg k0]at hd
 have bad:dc (a::t)=(65533,1)→∃a',a::t= [a']∧128≤a'.toNat∧(if dc (a::t)=(65533,1)then(((a.toNat:Nat):Int),true)else(((dc (a::t)).1:Nat),false))=(((a'.toNat:Nat):Int),true):=fun e=>by
  rw[e]at h1
  have:t= []:=by simpa using h1
  subst this
  exact⟨a,rfl,by omega,by rw[if_pos e]⟩
 by_cases k1:a.toNat/32=6∧(1<(a::t).length∧by' (a::t) 1/64=2)
 ·rw[if_pos k1]at hd
  by_cases k2:a.toNat % 32*64+by' (a::t) 1 % 64≥128
  ·rw[if_pos k2]at hd
   rw[hd]at h1⊢
   rcases t with _|⟨b,t⟩
   ·simp at h1
   have:t= []:=by simpa using h1
   subst this
   right;right;left
   exact⟨a,b,rfl,k1.1,k1.2.2,k2,by rw[if_neg (by simp)];rfl⟩
  ·rw[if_neg k2]at hd
   exact .inr (.inl (bad hd))
 rw[if_neg k1]at hd
 by_cases k1:a.toNat/16=14∧(1<(a::t).length∧by' (a::t) 1/64=2)∧(2<(a::t).length∧by' (a::t) 2/64=2)
 ·rw[if_pos k1]at hd
  split at hd
  ·rename_i k2
   rw[hd]at h1⊢
   rcases t with _|⟨b,_|⟨c,t⟩⟩
   ·simp at h1
   ·simp at h1
   have:t= []:=by simpa using h1
   subst this
   right;right;right;left
   exact⟨a,b,c,rfl,k1.1,k1.2.1.2,k1.2.2.2,k2.1,by rw[if_neg (by simp)];rfl⟩
  ·exact .inr (.inl (bad hd))
 rw[if_neg k1]at hd
 by_cases k1:a.toNat/8=30∧(1<(a::t).length∧by' (a::t) 1/64=2)∧(2<(a::t).length∧by' (a::t) 2/64=2)∧(3<(a::t).length∧by' (a::t) 3/64=2)
 ·rw[if_pos k1]at hd
  split at hd
  ·rename_i k2
   rw[hd]at h1⊢
   rcases t with _|⟨b,_|⟨c,_|⟨d,t⟩⟩⟩
   ·simp at h1
   ·simp at h1
   ·simp at h1
   have:t= []:=by simpa using h1
   subst this
   right;right;right;right
   exact⟨a,b,c,d,rfl,k1.1,k1.2.1.2,k1.2.2.1.2,k1.2.2.2.2,k2.1,by rw[if_neg (by simp)];rfl⟩
  ·exact .inr (.inl (bad hd))
 rw[if_neg k1]at hd
 exact .inr (.inl (bad hd))
end Go.Proofs.YtmhmjlfajlpabaaDoor
namespace Go.Proofs.YtmhmjlfajlpabaaDoor
open Go Go.Abs Go.Lib
abbrev Tx:=List UInt8
abbrev sD(l:List Tx):D:= .slice (l.map D.str)
inductive J where
 |mk (k n:Int) (t:Tx) (ks:List Tx) (l:List J)
namespace J
def k:J→Int|.mk k _ _ _ _=>k
def n:J→Int|.mk _ n _ _ _=>n
def t:J→Tx|.mk _ _ t _ _=>t
def ks:J→List Tx|.mk _ _ _ ks _=>ks
def l:J→List J|.mk _ _ _ _ l=>l
end J
mutual
def J.d:J→D
 |.mk k n t ks l=> .agg [.int .i64 k,.int .i64 n,.str t,sD ks,.slice (J.ds l)]
def J.ds:List J→List D
 | []=> []
 |a::l=>J.d a::J.ds l
end
theorem ds_map:∀l:List J,J.ds l=l.map J.d
 | []=>by unfold J.ds;rfl
 |a::l=>by unfold J.ds;rw[ds_map l];rfl
abbrev jsD(l:List J):D:= .slice (l.map J.d)
theorem jd(j:J):j.d= .agg [.int .i64 j.k,.int .i64 j.n,.str j.t,sD j.ks,jsD j.l]:=by
 obtain⟨k,n,t,ks,l⟩:=j
 unfold J.d
 rw[ds_map];rfl
abbrev jC(j:J):List AV:= [.d (.int .i64 j.k),.d (.int .i64 j.n),.d (.str j.t),.d (sD j.ks),.d (jsD j.l)]
abbrev J.zero:J:= .mk 0 0 [] [] []
abbrev vB(s:Tx):Bool:=Lib.validD s
def QbE(ks:List Tx):Bool:=ks.all vB&&decide ks.Nodup
def Qbd(j:J):Bool:=decide (j.ks.length+j.l.length=0)
def Qas(j:J):Bool:=
 if j.k=0 then Qbd j&&decide (j.n=0)&&decide (j.t= [])
 else if j.k=1 then Qbd j&&decide (j.t= [])&&(decide (j.n=0)||decide (j.n=1))
 else if j.k=2 then Qbd j&&decide (j.t= [])&&decide (-9007199254740991≤j.n)&&decide (j.n≤9007199254740991)
 else if j.k=3 then Qbd j&&decide (j.n=0)&&vB j.t
 else if j.k=4 then decide (j.ks.length=0)&&decide (j.n=0)&&decide (j.t= [])
 else if j.k=5 then decide (j.ks.length=j.l.length)&&decide (j.n=0)&&decide (j.t= [])&&QbE j.ks
 else false
def goodB:Nat→J→Bool
 |0,_=>false
 |n+1,j=>Qas j&&j.l.all (goodB n)
end Go.Proofs.YtmhmjlfajlpabaaDoor
namespace Go.Proofs.YtmhmjlfajlpabaaDoor
open Go Go.Abs
abbrev PR(α:Type):=Except (Nat×Nat) (α×Nat)
def nx(s:Tx)(at_:Nat):UInt8:=(s[at_]?).getD 0
def Qao(c:UInt8):Bool:=c==32||c==9||c==10||c==13
def Qaf(s:Tx)(at_:Nat):Nat:=at_+((s.drop at_).takeWhile Qao).length
def Qcb(s:Tx)(c:UInt8)(at_:Nat):Except (Nat×Nat) Nat:=if s[at_]? =some c then .ok (at_+1)else .error (11,at_)
def Qdk(s:Tx):Tx→Nat→Except (Nat×Nat) Nat
 | [],at_=> .ok at_
 |c::w,at_=>match Qcb s c at_ with
  |.ok p=>Qdk s w p
  |.error e=> .error e
def QaS(c:UInt8):Bool:=decide (48≤c.toNat)&&decide (c.toNat≤57)
def Qbp(s:Tx)(first:Nat):Nat→Nat→Nat→Except (Nat×Nat) (Nat×Nat)
 |0,_,at_=> .error (11,at_)
 |f+1,n,at_=>if QaS (nx s at_)then
   (if at_=first+1∧nx s first=48 then .error (11,at_)else Qbp s first f (if n≤9007199254740991 then 10*n+((nx s at_).toNat-48)else n) (at_+1))
  else .ok (n,at_)
def QcB(s:Tx)(from_:Nat):PR J:=
 let first:=if nx s from_=45 then from_+1 else from_
 if QaS (nx s first)then match Qbp s first (s.length+1) 0 first with
  |.error e=> .error e
  |.ok (n,p)=>if 9007199254740991<n∨nx s p=46∨nx s p=101∨nx s p=69 then .error (15,from_)
   else .ok (.mk 2 (if from_<first then-(n:Int)else n) [] [] [],p)
 else .error (11,first)
def hexV(c:UInt8):Option Nat:=
 if 48≤c.toNat∧c.toNat≤57 then some (c.toNat-48)
 else if 97≤c.toNat∧c.toNat≤102 then some (c.toNat-87)
 else if 65≤c.toNat∧c.toNat≤70 then some (c.toNat-55)else none
def QbB(s:Tx):Nat→Nat→Nat→Except (Nat×Nat) (Nat×Nat)
 |0,n,at_=> .ok (n,at_)
 |k+1,n,at_=>match s[at_]? with
  |none=> .error (11,at_)
  |some c=>match hexV c with
   |none=> .error (11,at_)
   |some v=>QbB s k (16*n+v) (at_+1)
def Qec(s:Tx)(at_:Nat):Except (Nat×Nat) (Nat×Nat):=match s[at_]? with
 |none=> .error (11,at_)
 |some c=>
  if c=34∨c=92∨c=47 then .ok (c.toNat,at_+1)
  else if c=98 then .ok (8,at_+1)
  else if c=102 then .ok (12,at_+1)
  else if c=110 then .ok (10,at_+1)
  else if c=114 then .ok (13,at_+1)
  else if c=116 then .ok (9,at_+1)
  else if c=117 then match QbB s 4 0 (at_+1)with
   |.error e=> .error e
   |.ok (n,p)=>if n<55296∨57343<n then .ok (n,p)
    else if 56320≤n∨¬(s[p]? =some 92∧s[p+1]? =some 117)then .error (11,at_-1)
    else match QbB s 4 0 (p+2)with
     |.error e=> .error e
     |.ok (m,q)=>if m<56320∨57343<m then .error (11,at_-1)else .ok (65536+(n-55296)*1024+(m-56320),q)
  else .error (11,at_)
def QcU(n:Nat):Tx:=
 if n<128 then [UInt8.ofNat n]
 else if n<2048 then [UInt8.ofNat (192+n/64),UInt8.ofNat (128+n % 64)]
 else if n<65536 then [UInt8.ofNat (224+n/4096),UInt8.ofNat (128+n/64 % 64),UInt8.ofNat (128+n % 64)]
 else [UInt8.ofNat (240+n/262144),UInt8.ofNat (128+n/4096 % 64),UInt8.ofNat (128+n/64 % 64),UInt8.ofNat (128+n % 64)]
def QbG(s:Tx):Nat→Tx→Nat→Except (Nat×Nat) (Tx×Nat)
 |0,_,at_=> .error (11,at_)
 |f+1,acc,at_=>match s[at_]? with
  |none=> .error (11,at_)
  |some c=>
   if c.toNat<32 then .error (11,at_)
   else if c=34 then .ok (acc,at_+1)
   else if c=92 then match Qec s (at_+1)with
    |.error e=> .error e
    |.ok (n,p)=>QbG s f (acc++QcU n) p
   else QbG s f (acc++ [c]) (at_+1)
def Qcc(s:Tx)(at_:Nat):Except (Nat×Nat) (Tx×Nat):=match Qcb s 34 at_ with
 |.error e=> .error e
 |.ok p=>QbG s (s.length+1) [] p
def Qcd(s:Tx)(first:Bool)(end_:UInt8)(at_:Nat):Except (Nat×Nat) (Bool×Nat):=
 let p:=Qaf s at_
 if s[p]? =some end_ then .ok (false,p+1)
 else if first then .ok (true,p)
 else match Qcb s 44 p with
  |.error e=> .error e
  |.ok q=> .ok (true,Qaf s q)
def Qhg(c:UInt8):Bool:=QaS c||c==91||c==123||c==34||c==110||c==116||c==102||c==45
mutual
def Qa8(s:Tx):Nat→Nat→Nat→PR J
 |0,_,at_=> .error (11,at_)
 |f+1,deep,at_=>
  if 12<deep∧Qhg (nx s at_)then .error (12,at_)
  else if nx s at_=91 then match Qdp s f deep true [] (at_+1)with
   |.error e=> .error e
   |.ok (l,p)=> .ok (.mk 4 0 [] [] l,p)
  else if nx s at_=123 then match Qa0 s f deep true [] [] (at_+1)with
   |.error e=> .error e
   |.ok (ks,l,p)=> .ok (.mk 5 0 [] ks l,p)
  else if nx s at_=34 then match Qcc s at_ with
   |.error e=> .error e
   |.ok (t,p)=> .ok (.mk 3 0 t [] [],p)
  else if nx s at_=110 then match Qdk s [110,117,108,108] at_ with
   |.error e=> .error e
   |.ok p=> .ok (.mk 0 0 [] [] [],p)
  else if nx s at_=116 then match Qdk s [116,114,117,101] at_ with
   |.error e=> .error e
   |.ok p=> .ok (.mk 1 1 [] [] [],p)
  else if nx s at_=102 then match Qdk s [102,97,108,115,101] at_ with
   |.error e=> .error e
   |.ok p=> .ok (.mk 1 0 [] [] [],p)
  else QcB s at_
def Qdp(s:Tx):Nat→Nat→Bool→List J→Nat→PR (List J)
 |0,_,_,_,at_=> .error (11,at_)
 |f+1,deep,first,acc,at_=>match Qcd s first 93 at_ with
  |.error e=> .error e
  |.ok (false,p)=> .ok (acc,p)
  |.ok (true,p)=>match Qa8 s f (deep+1) p with
   |.error e=> .error e
   |.ok (j,q)=>Qdp s f deep false (acc++ [j]) q
def Qa0(s:Tx):Nat→Nat→Bool→List Tx→List J→Nat→Except (Nat×Nat) (List Tx×List J×Nat)
 |0,_,_,_,_,at_=> .error (11,at_)
 |f+1,deep,first,ks,l,at_=>match Qcd s first 125 at_ with
  |.error e=> .error e
  |.ok (false,p)=> .ok (ks,l,p)
  |.ok (true,p)=>match Qcc s p with
   |.error e=> .error e
   |.ok (k,q)=>if ks.contains k then .error (14,p)else match Qcb s 58 (Qaf s q)with
    |.error e=> .error e
    |.ok r=>match Qa8 s f (deep+1) (Qaf s r)with
     |.error e=> .error e
     |.ok (j,z)=>Qa0 s f deep false (ks++ [k]) (l++ [j]) z
end
def tless(a b:Tx):Bool:=Op.bytesLess a b
def insK(ks:List Tx)(i:Nat):List Nat→List Nat
 | []=> [i]
 |j::l=>if tless (ks.getD j []) (ks.getD i [])then j::insK ks i l else i::j::l
def Qmz(ks:List Tx):List Nat→List Nat
 | []=> []
 |i::l=>insK ks i (Qmz ks l)
def Qay(ks:List Tx):List Nat:=Qmz ks (List.range ks.length)
mutual
def Qah:J→J
 |.mk k n t ks l=>if k=5 then .mk k n t ((Qay ks).map fun i=>ks.getD i []) ((Qay ks).map fun i=>(Qff l).getD i J.zero)else .mk k n t [] (Qff l)
def Qff:List J→List J
 | []=> []
 |a::l=>Qah a::Qff l
end
theorem QgD:∀l:List J,Qff l=l.map Qah
 | []=>by unfold Qff;rfl
 |a::l=>by unfold Qff;rw[QgD l];rfl
theorem QcA(j:J):Qah j=if j.k=5 then .mk j.k j.n j.t ((Qay j.ks).map fun i=>j.ks.getD i []) ((Qay j.ks).map fun i=>(j.l.map Qah).getD i J.zero)else .mk j.k j.n j.t [] (j.l.map Qah):=by
 obtain⟨k,n,t,ks,l⟩:=j
 conv=>lhs;unfold Qah
 rw[QgD];rfl
def Qce(s:Tx):Nat→Nat→Int
 |0,_=> -1
 |f+1,p=>if p<s.length then(if dec s p=(65533,1)then p else Qce s f (p+(dec s p).2))else-1
def Qa1(s:Tx):Int:=Qce s (s.length+1) 0
def QaP(s:Tx):Except (Nat×Nat) J:=
 if 16384<s.length then .error (13,16384)
 else if 0≤Qa1 s then .error (10,(Qa1 s).toNat)
 else match Qa8 s (2*s.length+3) 1 (Qaf s 0)with
  |.error e=> .error e
  |.ok (j,p)=>if Qaf s p<s.length then .error (16,Qaf s p)else .ok (Qah j)
def tab0:List D:=Go.Pinned.utf8FirstZ.map (fun(n:Nat)=>D.int .u8 (n:Int))
def tab1:List D:=([128,191,160,191,128,159,144,191,128,143,0,0,0,0,0,0,0,0,0,0,0,0,0,0,0,0,0,0,0,0,0,0]:List Int).map (.int .u8)
def tab3:List D:=(List.range 20).map fun i=> .int .u64 ((10^i:Nat):Int)
instance tabs:Tab:=⟨fun n=>if n=0 then some tab0 else if n=1 then some tab1 else if n=3 then some tab3 else none,fun f=> [28,45,46,47,64,72,77,80,65].contains f,fun f=> [25,40,42,43].contains f⟩
def c7:CFn:=
 ⟨0,25,false,.seq (.region [⟨some 2,.move (.c (boolD false)),none,[]⟩] none []) (.seq (.region [⟨some 3,.move (.c (.d (.str []))),none,[]⟩,⟨some 4,.move (.c (.d (.str []))),none,[]⟩] none []) (.seq (.seq (.region [⟨some 5,.move (.c (.d (.int .i64 0))),none,[]⟩] none []) (.block 0 (.loop (.seq (.seq (.region [⟨some 0,.bin .lss .none (.t 5) (.c (.d (.int .i64 12))),none,[]⟩] none []) (.cond (.t 0) .skip (.exit 0))) (.seq (.block 1 (.seq (.region [⟨some 21,.move (.t 3),none,[]⟩,⟨some 21,.bin .add .none (.t 21) (.c (.d (.str [91]))),none,[]⟩,⟨some 3,.move (.t 21),none,[21]⟩] none [21]) (.region [⟨some 21,.move (.t 4),none,[]⟩,⟨some 21,.bin .add .none (.t 21) (.c (.d (.str [93]))),none,[]⟩,⟨some 4,.move (.t 21),none,[21]⟩] none [21]))) (.region [⟨some 21,.move (.t 5),none,[]⟩,⟨some 21,.bin .add .none (.t 21) (.c (.d (.int .i64 1))),none,[]⟩,⟨some 5,.move (.t 21),none,[21]⟩] none [21])))))) (.seq (.region [⟨some 21,.bin .add .none (.t 3) (.t 4),none,[]⟩,⟨some 21,.toBytes (.t 21),none,[]⟩,⟨some 21,.call 10 [.t 21],none,[]⟩,⟨some 22,.extract (.t 21) 0,none,[]⟩,⟨some 23,.extract (.t 21) 1,none,[]⟩,⟨some 21,.extract (.t 21) 2,none,[]⟩,⟨some 6,.new [.d (.int .i64 0),.d (.int .i64 0),.d (.str []),.fslice [],.fslice []],none,[]⟩,⟨none,.store 5 (.t 6) (.t 22),none,[22]⟩,⟨some 7,.move (.t 23),none,[23]⟩,⟨some 21,.move (.t 21),none,[21]⟩] none [21,22,23]) (.seq (.region [⟨some 21,.bin .add .none (.t 3) (.c (.d (.str [49]))),none,[]⟩,⟨some 21,.bin .add .none (.t 21) (.t 4),none,[]⟩,⟨some 21,.toBytes (.t 21),none,[]⟩,⟨some 21,.call 10 [.t 21],none,[]⟩,⟨some 22,.extract (.t 21) 0,none,[]⟩,⟨some 23,.extract (.t 21) 1,none,[]⟩,⟨some 21,.extract (.t 21) 2,none,[]⟩,⟨some 24,.new [.d (.int .i64 0),.d (.int .i64 0),.d (.str []),.fslice [],.fslice []],none,[]⟩,⟨none,.store 5 (.t 24) (.t 22),none,[22]⟩,⟨some 8,.move (.t 23),none,[23]⟩,⟨some 9,.move (.t 21),none,[21]⟩] none [21,22,23,24]) (.seq (.region [⟨some 21,.mkSl 1 1 [.d (.int .u8 0)] (.c (.d (.int .i64 16384))) (.c (.d (.int .i64 16384))),none,[]⟩,⟨some 10,.move (.t 21),none,[21]⟩] none [21]) (.seq (.seq (.region [⟨some 11,.len .sl (.t 10),none,[]⟩,⟨some 12,.move (.c (.d (.int .i64 0))),none,[]⟩] none []) (.block 2 (.loop (.seq (.region [⟨some 1,.bin .lss .none (.t 12) (.t 11),none,[]⟩] none []) (.seq (.cond (.t 1) .skip (.exit 2)) (.seq (.block 3 (.seq (.region [⟨some 21,.move (.t 12),none,[12]⟩,⟨some 13,.move (.t 21),none,[21]⟩] none [21]) (.region [⟨some 21,.idxSl 1 (.t 10) (.t 13),none,[]⟩,⟨none,.store 1 (.t 21) (.c (.d (.int .u8 97))),none,[]⟩] none [21]))) (.region [⟨some 21,.bin .add .none (.t 12) (.c (.d (.int .i64 1))),none,[]⟩,⟨some 12,.move (.t 21),none,[]⟩] none [21]))))))) (.seq (.region [⟨some 21,.idxSl 1 (.t 10) (.c (.d (.int .i64 0))),none,[]⟩,⟨none,.store 1 (.t 21) (.c (.d (.int .u8 34))),none,[]⟩] none [21]) (.seq (.region [⟨some 21,.len .sl (.t 10),none,[]⟩,⟨some 21,.bin .sub .none (.t 21) (.c (.d (.int .i64 1))),none,[]⟩,⟨some 21,.idxSl 1 (.t 10) (.t 21),none,[]⟩,⟨none,.store 1 (.t 21) (.c (.d (.int .u8 34))),none,[]⟩] none [21]) (.seq (.region [⟨some 21,.call 10 [.t 10],none,[]⟩,⟨some 22,.extract (.t 21) 0,none,[]⟩,⟨some 23,.extract (.t 21) 1,none,[]⟩,⟨some 21,.extract (.t 21) 2,none,[]⟩,⟨some 14,.new [.d (.int .i64 0),.d (.int .i64 0),.d (.str []),.fslice [],.fslice []],none,[]⟩,⟨none,.store 5 (.t 14) (.t 22),none,[22]⟩,⟨some 15,.move (.t 23),none,[23]⟩,⟨some 21,.move (.t 21),none,[21]⟩] none [21,22,23]) (.seq (.region [⟨some 21,.load true 5 (.t 14),none,[]⟩,⟨some 21,.call 12 [.t 21],none,[]⟩,⟨some 22,.extract (.t 21) 0,none,[]⟩,⟨some 21,.extract (.t 21) 1,none,[]⟩,⟨some 16,.move (.t 22),none,[22]⟩,⟨some 17,.move (.t 21),none,[21]⟩] none [21,22]) (.seq (.region [⟨some 21,.move (.t 10),none,[10]⟩,⟨some 22,.buildSl 1 (.d (.int .u8 0)) 1 [(0,.c (.d (.int .u8 32)))],none,[]⟩,⟨some 21,.append 1 1 false (.t 21) (.t 22),none,[21]⟩,⟨some 21,.call 10 [.t 21],none,[]⟩,⟨some 22,.extract (.t 21) 0,none,[]⟩,⟨some 23,.extract (.t 21) 1,none,[]⟩,⟨some 21,.extract (.t 21) 2,none,[]⟩,⟨some 24,.new [.d (.int .i64 0),.d (.int .i64 0),.d (.str []),.fslice [],.fslice []],none,[]⟩,⟨none,.store 5 (.t 24) (.t 22),none,[22]⟩,⟨some 18,.move (.t 23),none,[23]⟩,⟨some 19,.move (.t 21),none,[21]⟩] none [21,22,23,24]) (.seq (.region [⟨some 21,.fieldAddr 2 (.t 14),none,[]⟩,⟨some 21,.load false 1 (.t 21),none,[]⟩,⟨some 21,.bin .add .none (.t 21) (.c (.d (.str [97]))),none,[]⟩,⟨some 22,.fieldAddr 2 (.t 14),none,[]⟩,⟨none,.store 1 (.t 22) (.t 21),none,[21]⟩] none [21,22]) (.seq (.region [⟨some 21,.load true 5 (.t 14),none,[]⟩,⟨some 21,.call 12 [.t 21],none,[]⟩,⟨some 22,.extract (.t 21) 0,none,[]⟩,⟨some 21,.extract (.t 21) 1,none,[]⟩,⟨some 22,.move (.t 22),none,[22]⟩,⟨some 20,.move (.t 21),none,[21]⟩] none [21,22]) (.seq (.region [⟨some 21,.bin .eql .none (.t 7) (.c (.d (.int .i64 0))),none,[]⟩,⟨some 22,.load true 5 (.t 6),some (21,true),[]⟩,⟨some 22,.call 13 [.t 22],some (21,true),[]⟩,⟨some 21,.pick (.t 21) (.t 22) (.c (boolD false)),none,[]⟩,⟨some 22,.move (.t 8),some (21,true),[]⟩,⟨some 22,.bin .eql .none (.t 22) (.c (.d (.int .i64 12))),some (21,true),[]⟩,⟨some 21,.pick (.t 21) (.t 22) (.c (boolD false)),none,[]⟩,⟨some 22,.move (.t 9),some (21,true),[]⟩,⟨some 22,.bin .eql .none (.t 22) (.c (.d (.int .i64 12))),some (21,true),[]⟩,⟨some 21,.pick (.t 21) (.t 22) (.c (boolD false)),none,[]⟩,⟨some 22,.move (.t 15),some (21,true),[]⟩,⟨some 22,.bin .eql .none (.t 22) (.c (.d (.int .i64 0))),some (21,true),[]⟩,⟨some 21,.pick (.t 21) (.t 22) (.c (boolD false)),none,[]⟩,⟨some 22,.move (.t 17),some (21,true),[]⟩,⟨some 22,.bin .eql .none (.t 22) (.c (.d (.int .i64 0))),some (21,true),[]⟩,⟨some 21,.pick (.t 21) (.t 22) (.c (boolD false)),none,[]⟩,⟨some 22,.move (.t 16),some (21,true),[]⟩,⟨some 22,.toStr (.t 22),some (21,true),[]⟩,⟨some 23,.move (.t 10),some (21,true),[]⟩,⟨some 23,.toStr (.t 23),some (21,true),[]⟩,⟨some 22,.bin .eql .none (.t 22) (.t 23),some (21,true),[]⟩,⟨some 21,.pick (.t 21) (.t 22) (.c (boolD false)),none,[]⟩,⟨some 22,.move (.t 18),some (21,true),[]⟩,⟨some 22,.bin .eql .none (.t 22) (.c (.d (.int .i64 13))),some (21,true),[]⟩,⟨some 21,.pick (.t 21) (.t 22) (.c (boolD false)),none,[]⟩,⟨some 22,.move (.t 19),some (21,true),[]⟩,⟨some 22,.bin .eql .none (.t 22) (.c (.d (.int .i64 16384))),some (21,true),[]⟩,⟨some 21,.pick (.t 21) (.t 22) (.c (boolD false)),none,[]⟩,⟨some 22,.move (.t 20),some (21,true),[]⟩,⟨some 22,.bin .eql .none (.t 22) (.c (.d (.int .i64 13))),some (21,true),[]⟩,⟨some 21,.pick (.t 21) (.t 22) (.c (boolD false)),none,[]⟩,⟨some 22,.call 11 [],some (21,true),[]⟩,⟨some 21,.pick (.t 21) (.t 22) (.c (boolD false)),none,[]⟩,⟨some 2,.move (.t 21),none,[21]⟩] none [21,22,23]) .ret)))))))))))))),[.t 2]⟩
def c11:CFn:=
 ⟨0,15,false,.seq (.region [⟨some 0,.move (.c (boolD false)),none,[]⟩] none []) (.seq (.region [⟨some 11,.buildLit 1 (.d (.int .u8 0)) 23 [(0,.c (.d (.int .u8 123))),(1,.c (.d (.int .u8 34))),(2,.c (.d (.int .u8 98))),(3,.c (.d (.int .u8 34))),(4,.c (.d (.int .u8 58))),(5,.c (.d (.int .u8 49))),(6,.c (.d (.int .u8 44))),(7,.c (.d (.int .u8 34))),(8,.c (.d (.int .u8 97))),(9,.c (.d (.int .u8 34))),(10,.c (.d (.int .u8 58))),(11,.c (.d (.int .u8 91))),(12,.c (.d (.int .u8 116))),(13,.c (.d (.int .u8 114))),(14,.c (.d (.int .u8 117))),(15,.c (.d (.int .u8 101))),(16,.c (.d (.int .u8 44))),(17,.c (.d (.int .u8 110))),(18,.c (.d (.int .u8 117))),(19,.c (.d (.int .u8 108))),(20,.c (.d (.int .u8 108))),(21,.c (.d (.int .u8 93))),(22,.c (.d (.int .u8 125)))],none,[]⟩,⟨some 11,.sameSl (.t 11),none,[]⟩,⟨some 11,.call 10 [.t 11],none,[]⟩,⟨some 12,.extract (.t 11) 0,none,[]⟩,⟨some 13,.extract (.t 11) 1,none,[]⟩,⟨some 11,.extract (.t 11) 2,none,[]⟩,⟨some 1,.new [.d (.int .i64 0),.d (.int .i64 0),.d (.str []),.fslice [],.fslice []],none,[]⟩,⟨none,.store 5 (.t 1) (.t 12),none,[12]⟩,⟨some 2,.move (.t 13),none,[13]⟩,⟨some 11,.move (.t 11),none,[11]⟩] none [11,12,13]) (.seq (.region [⟨some 11,.load true 5 (.t 1),none,[]⟩,⟨some 11,.call 12 [.t 11],none,[]⟩,⟨some 12,.extract (.t 11) 0,none,[]⟩,⟨some 11,.extract (.t 11) 1,none,[]⟩,⟨some 3,.move (.t 12),none,[12]⟩,⟨some 4,.move (.t 11),none,[11]⟩] none [11,12]) (.seq (.region [⟨some 11,.buildLit 1 (.d (.int .u8 0)) 4 [(0,.c (.d (.int .u8 91))),(1,.c (.d (.int .u8 48))),(2,.c (.d (.int .u8 49))),(3,.c (.d (.int .u8 93)))],none,[]⟩,⟨some 11,.sameSl (.t 11),none,[]⟩,⟨some 11,.call 10 [.t 11],none,[]⟩,⟨some 12,.extract (.t 11) 0,none,[]⟩,⟨some 13,.extract (.t 11) 1,none,[]⟩,⟨some 11,.extract (.t 11) 2,none,[]⟩,⟨some 14,.new [.d (.int .i64 0),.d (.int .i64 0),.d (.str []),.fslice [],.fslice []],none,[]⟩,⟨none,.store 5 (.t 14) (.t 12),none,[12]⟩,⟨some 5,.move (.t 13),none,[13]⟩,⟨some 6,.move (.t 11),none,[11]⟩] none [11,12,13,14]) (.seq (.region [⟨some 11,.buildLit 1 (.d (.int .u8 0)) 13 [(0,.c (.d (.int .u8 123))),(1,.c (.d (.int .u8 34))),(2,.c (.d (.int .u8 97))),(3,.c (.d (.int .u8 34))),(4,.c (.d (.int .u8 58))),(5,.c (.d (.int .u8 49))),(6,.c (.d (.int .u8 44))),(7,.c (.d (.int .u8 34))),(8,.c (.d (.int .u8 97))),(9,.c (.d (.int .u8 34))),(10,.c (.d (.int .u8 58))),(11,.c (.d (.int .u8 50))),(12,.c (.d (.int .u8 125)))],none,[]⟩,⟨some 11,.sameSl (.t 11),none,[]⟩,⟨some 11,.call 10 [.t 11],none,[]⟩,⟨some 12,.extract (.t 11) 0,none,[]⟩,⟨some 13,.extract (.t 11) 1,none,[]⟩,⟨some 11,.extract (.t 11) 2,none,[]⟩,⟨some 14,.new [.d (.int .i64 0),.d (.int .i64 0),.d (.str []),.fslice [],.fslice []],none,[]⟩,⟨none,.store 5 (.t 14) (.t 12),none,[12]⟩,⟨some 7,.move (.t 13),none,[13]⟩,⟨some 8,.move (.t 11),none,[11]⟩] none [11,12,13,14]) (.seq (.region [⟨some 11,.buildLit 1 (.d (.int .u8 0)) 3 [(0,.c (.d (.int .u8 49))),(1,.c (.d (.int .u8 46))),(2,.c (.d (.int .u8 53)))],none,[]⟩,⟨some 11,.sameSl (.t 11),none,[]⟩,⟨some 11,.call 10 [.t 11],none,[]⟩,⟨some 12,.extract (.t 11) 0,none,[]⟩,⟨some 13,.extract (.t 11) 1,none,[]⟩,⟨some 11,.extract (.t 11) 2,none,[]⟩,⟨some 14,.new [.d (.int .i64 0),.d (.int .i64 0),.d (.str []),.fslice [],.fslice []],none,[]⟩,⟨none,.store 5 (.t 14) (.t 12),none,[12]⟩,⟨some 9,.move (.t 13),none,[13]⟩,⟨some 10,.move (.t 11),none,[11]⟩] none [11,12,13,14]) (.seq (.region [⟨some 11,.bin .eql .none (.t 2) (.c (.d (.int .i64 0))),none,[]⟩,⟨some 12,.move (.t 4),some (11,true),[]⟩,⟨some 12,.bin .eql .none (.t 12) (.c (.d (.int .i64 0))),some (11,true),[]⟩,⟨some 11,.pick (.t 11) (.t 12) (.c (boolD false)),none,[]⟩,⟨some 12,.move (.t 3),some (11,true),[]⟩,⟨some 12,.toStr (.t 12),some (11,true),[]⟩,⟨some 12,.bin .eql .none (.t 12) (.c (.d (.str [123,34,97,34,58,91,116,114,117,101,44,110,117,108,108,93,44,34,98,34,58,49,125]))),some (11,true),[]⟩,⟨some 11,.pick (.t 11) (.t 12) (.c (boolD false)),none,[]⟩,⟨some 12,.move (.t 5),some (11,true),[]⟩,⟨some 12,.bin .eql .none (.t 12) (.c (.d (.int .i64 11))),some (11,true),[]⟩,⟨some 11,.pick (.t 11) (.t 12) (.c (boolD false)),none,[]⟩,⟨some 12,.move (.t 6),some (11,true),[]⟩,⟨some 12,.bin .eql .none (.t 12) (.c (.d (.int .i64 2))),some (11,true),[]⟩,⟨some 11,.pick (.t 11) (.t 12) (.c (boolD false)),none,[]⟩,⟨some 12,.move (.t 7),some (11,true),[]⟩,⟨some 12,.bin .eql .none (.t 12) (.c (.d (.int .i64 14))),some (11,true),[]⟩,⟨some 11,.pick (.t 11) (.t 12) (.c (boolD false)),none,[]⟩,⟨some 12,.move (.t 8),some (11,true),[]⟩,⟨some 12,.bin .eql .none (.t 12) (.c (.d (.int .i64 7))),some (11,true),[]⟩,⟨some 11,.pick (.t 11) (.t 12) (.c (boolD false)),none,[]⟩,⟨some 12,.move (.t 9),some (11,true),[]⟩,⟨some 12,.bin .eql .none (.t 12) (.c (.d (.int .i64 15))),some (11,true),[]⟩,⟨some 11,.pick (.t 11) (.t 12) (.c (boolD false)),none,[]⟩,⟨some 12,.move (.t 10),some (11,true),[]⟩,⟨some 12,.bin .eql .none (.t 12) (.c (.d (.int .i64 0))),some (11,true),[]⟩,⟨some 11,.pick (.t 11) (.t 12) (.c (boolD false)),none,[]⟩,⟨some 0,.move (.t 11),none,[11]⟩] none [11,12]) .ret)))))),[.t 0]⟩
def c12:CFn:=
 ⟨1,8,false,.seq (.region [⟨some 5,.box (.t 0),none,[]⟩,⟨some 3,.move (.c (.fslice [])),none,[]⟩,⟨some 4,.move (.c (.d (.int .i64 0))),none,[]⟩] none []) (.seq (.region [⟨some 7,.load true 5 (.t 5),none,[]⟩,⟨some 7,.call 20 [.t 7],none,[]⟩,⟨some 1,.un .not (.t 7),none,[]⟩] none [7]) (.cond (.t 1) (.seq (.region [⟨some 3,.move (.c (.fslice [])),none,[]⟩,⟨some 4,.move (.c (.d (.int .i64 1))),none,[]⟩] none []) .ret) (.seq .skip (.seq (.region [⟨some 7,.load true 5 (.t 5),none,[]⟩,⟨some 7,.call 28 [.c (.fslice []),.t 7],none,[]⟩,⟨some 6,.move (.t 7),none,[7]⟩] none [7]) (.seq (.region [⟨some 7,.len .sl (.t 6),none,[]⟩,⟨some 2,.bin .gtr .none (.t 7) (.c (.d (.int .i64 16384))),none,[]⟩] none [7]) (.cond (.t 2) (.seq (.region [⟨some 3,.move (.c (.fslice [])),none,[]⟩,⟨some 4,.move (.c (.d (.int .i64 13))),none,[]⟩] none []) .ret) (.seq .skip (.seq (.region [⟨some 7,.move (.t 6),none,[6]⟩,⟨some 3,.move (.t 7),none,[7]⟩,⟨some 4,.move (.c (.d (.int .i64 0))),none,[]⟩] none [7]) .ret)))))))),[.t 3,.t 4]⟩
def c13:CFn:=
 ⟨1,4,false,.seq (.region [⟨some 2,.box (.t 0),none,[]⟩,⟨some 1,.move (.c (boolD false)),none,[]⟩] none []) (.seq (.region [⟨some 3,.load true 5 (.t 2),none,[]⟩,⟨some 3,.call 29 [.t 3,.c (.d (.int .i64 12))],none,[]⟩,⟨some 1,.move (.t 3),none,[3]⟩] none [3]) .ret),[.t 1]⟩
def c14:CFn:=
 ⟨2,15,false,.seq (.region [⟨some 8,.box (.t 0),none,[]⟩,⟨some 9,.box (.t 1),none,[]⟩,⟨some 7,.move (.c (boolD false)),none,[]⟩] none []) (.seq (.region [⟨some 12,.fieldAddr 0 (.t 8),none,[]⟩,⟨some 12,.load false 1 (.t 12),none,[]⟩,⟨some 13,.fieldAddr 0 (.t 9),none,[]⟩,⟨some 13,.load false 1 (.t 13),none,[]⟩,⟨some 12,.bin .neq .none (.t 12) (.t 13),none,[]⟩,⟨some 13,.fieldAddr 1 (.t 8),some (12,false),[]⟩,⟨some 13,.load false 1 (.t 13),some (12,false),[]⟩,⟨some 14,.fieldAddr 1 (.t 9),some (12,false),[]⟩,⟨some 14,.load false 1 (.t 14),some (12,false),[]⟩,⟨some 13,.bin .neq .none (.t 13) (.t 14),some (12,false),[]⟩,⟨some 12,.pick (.t 12) (.c (boolD true)) (.t 13),none,[]⟩,⟨some 13,.fieldAddr 2 (.t 8),some (12,false),[]⟩,⟨some 13,.load false 1 (.t 13),some (12,false),[]⟩,⟨some 14,.fieldAddr 2 (.t 9),some (12,false),[]⟩,⟨some 14,.load false 1 (.t 14),some (12,false),[]⟩,⟨some 13,.bin .neq .none (.t 13) (.t 14),some (12,false),[]⟩,⟨some 12,.pick (.t 12) (.c (boolD true)) (.t 13),none,[]⟩,⟨some 13,.fieldAddr 3 (.t 8),some (12,false),[]⟩,⟨some 13,.load false 1 (.t 13),some (12,false),[]⟩,⟨some 13,.len .sl (.t 13),some (12,false),[]⟩,⟨some 14,.fieldAddr 3 (.t 9),some (12,false),[]⟩,⟨some 14,.load false 1 (.t 14),some (12,false),[]⟩,⟨some 14,.len .sl (.t 14),some (12,false),[]⟩,⟨some 13,.bin .neq .none (.t 13) (.t 14),some (12,false),[]⟩,⟨some 12,.pick (.t 12) (.c (boolD true)) (.t 13),none,[]⟩,⟨some 13,.fieldAddr 4 (.t 8),some (12,false),[]⟩,⟨some 13,.load false 1 (.t 13),some (12,false),[]⟩,⟨some 13,.len .sl (.t 13),some (12,false),[]⟩,⟨some 14,.fieldAddr 4 (.t 9),some (12,false),[]⟩,⟨some 14,.load false 1 (.t 14),some (12,false),[]⟩,⟨some 14,.len .sl (.t 14),some (12,false),[]⟩,⟨some 13,.bin .neq .none (.t 13) (.t 14),some (12,false),[]⟩,⟨some 2,.pick (.t 12) (.c (boolD true)) (.t 13),none,[]⟩] none [12,13,14]) (.cond (.t 2) (.seq (.region [⟨some 7,.move (.c (boolD false)),none,[]⟩] none []) .ret) (.seq .skip (.seq (.seq (.region [⟨some 10,.move (.c (.d (.int .i64 0))),none,[]⟩] none []) (.block 0 (.loop (.seq (.seq (.region [⟨some 12,.fieldAddr 3 (.t 8),none,[]⟩,⟨some 12,.load false 1 (.t 12),none,[]⟩,⟨some 12,.len .sl (.t 12),none,[]⟩,⟨some 3,.bin .lss .none (.t 10) (.t 12),none,[]⟩] none [12]) (.cond (.t 3) .skip (.exit 0))) (.seq (.block 1 (.seq (.region [⟨some 12,.fieldAddr 3 (.t 8),none,[]⟩,⟨some 12,.load false 1 (.t 12),none,[]⟩,⟨some 12,.idxSl 1 (.t 12) (.t 10),none,[]⟩,⟨some 12,.load false 1 (.t 12),none,[]⟩,⟨some 13,.fieldAddr 3 (.t 9),none,[]⟩,⟨some 13,.load false 1 (.t 13),none,[]⟩,⟨some 13,.idxSl 1 (.t 13) (.t 10),none,[]⟩,⟨some 13,.load false 1 (.t 13),none,[]⟩,⟨some 4,.bin .neq .none (.t 12) (.t 13),none,[]⟩] none [12,13]) (.cond (.t 4) (.seq (.region [⟨some 7,.move (.c (boolD false)),none,[]⟩] none []) .ret) .skip))) (.region [⟨some 12,.move (.t 10),none,[]⟩,⟨some 12,.bin .add .none (.t 12) (.c (.d (.int .i64 1))),none,[]⟩,⟨some 10,.move (.t 12),none,[12]⟩] none [12])))))) (.seq (.seq (.region [⟨some 11,.move (.c (.d (.int .i64 0))),none,[]⟩] none []) (.block 2 (.loop (.seq (.seq (.region [⟨some 12,.fieldAddr 4 (.t 8),none,[]⟩,⟨some 12,.load false 1 (.t 12),none,[]⟩,⟨some 12,.len .sl (.t 12),none,[]⟩,⟨some 5,.bin .lss .none (.t 11) (.t 12),none,[]⟩] none [12]) (.cond (.t 5) .skip (.exit 2))) (.seq (.block 3 (.seq (.region [⟨some 12,.fieldAddr 4 (.t 8),none,[]⟩,⟨some 12,.load false 1 (.t 12),none,[]⟩,⟨some 12,.idxSl 5 (.t 12) (.t 11),none,[]⟩,⟨some 12,.load true 5 (.t 12),none,[]⟩,⟨some 13,.fieldAddr 4 (.t 9),none,[]⟩,⟨some 13,.load false 1 (.t 13),none,[]⟩,⟨some 13,.idxSl 5 (.t 13) (.t 11),none,[]⟩,⟨some 13,.load true 5 (.t 13),none,[]⟩,⟨some 12,.call 14 [.t 12,.t 13],none,[]⟩,⟨some 6,.un .not (.t 12),none,[]⟩] none [12,13]) (.cond (.t 6) (.seq (.region [⟨some 7,.move (.c (boolD false)),none,[]⟩] none []) .ret) .skip))) (.region [⟨some 12,.move (.t 11),none,[]⟩,⟨some 12,.bin .add .none (.t 12) (.c (.d (.int .i64 1))),none,[]⟩,⟨some 11,.move (.t 12),none,[12]⟩] none [12])))))) (.seq (.region [⟨some 7,.move (.c (boolD true)),none,[]⟩] none []) .ret)))))),[.t 7]⟩
def c15:CFn:=
 ⟨1,5,false,.seq (.region [⟨some 3,.box (.t 0),none,[]⟩,⟨some 2,.new [.d (.int .i64 0),.d (.int .i64 0),.d (.str []),.fslice [],.fslice []],none,[]⟩] none []) (.seq (.region [⟨some 4,.load true 5 (.t 3),none,[]⟩,⟨some 4,.call 13 [.t 4],none,[]⟩,⟨some 1,.un .not (.t 4),none,[]⟩] none [4]) (.cond (.t 1) (.seq (.region [⟨some 4,.build [.d (.int .i64 0),.d (.int .i64 0),.d (.str []),.fslice [],.fslice []] [],none,[]⟩,⟨none,.store 5 (.t 2) (.t 4),none,[4]⟩] none [4]) .ret) (.seq .skip (.seq (.region [⟨some 4,.load true 5 (.t 3),none,[]⟩,⟨some 4,.call 30 [.t 4],none,[]⟩,⟨none,.store 5 (.t 2) (.t 4),none,[4]⟩] none [4]) .ret)))),[.cell 2 true 5]⟩
def c16:CFn:=
 ⟨1,4,false,.seq (.region [⟨some 2,.box (.t 0),none,[]⟩,⟨some 1,.move (.c (boolD false)),none,[]⟩] none []) (.seq (.region [⟨some 3,.load true 5 (.t 2),none,[]⟩,⟨some 3,.call 31 [.t 3,.c (.d (.int .i64 2000)),.c (.d (.int .i64 30))],none,[]⟩,⟨some 3,.bin .geq .none (.t 3) (.c (.d (.int .i64 0))),none,[]⟩,⟨some 1,.move (.t 3),none,[3]⟩] none [3]) .ret),[.t 1]⟩
def c17:CFn:=
 ⟨5,8,false,.seq (.region [⟨some 5,.move (.c (.fslice [])),none,[]⟩] none []) (.seq (.region [⟨some 7,.toBytes (.t 0),none,[]⟩,⟨some 7,.append 1 1 false (.t 7) (.t 1),none,[7]⟩,⟨some 7,.append 1 1 true (.t 7) (.t 2),none,[7]⟩,⟨some 7,.append 1 1 false (.t 7) (.t 3),none,[7]⟩,⟨some 6,.move (.t 7),none,[7]⟩] none [7]) (.seq (.region [⟨some 7,.move (.t 6),none,[6]⟩,⟨some 7,.append 1 1 true (.t 7) (.t 4),none,[7]⟩,⟨some 5,.move (.t 7),none,[7]⟩] none [7]) .ret)),[.t 5]⟩
def c18:CFn:=
 ⟨1,8,false,.seq (.region [⟨some 3,.move (.c (.d (.int .i64 0))),none,[]⟩] none []) (.seq (.seq (.region [⟨some 4,.move (.c (.d (.int .i64 0))),none,[]⟩] none []) (.block 0 (.loop (.seq (.seq (.region [⟨some 6,.len .str (.t 0),none,[]⟩,⟨some 1,.bin .lss .none (.t 4) (.t 6),none,[]⟩] none [6]) (.cond (.t 1) .skip (.exit 0))) (.block 1 (.seq (.region [⟨some 6,.call 32 [.t 0,.t 4],none,[]⟩,⟨some 7,.extract (.t 6) 0,none,[]⟩,⟨some 6,.extract (.t 6) 1,none,[]⟩,⟨some 7,.move (.t 7),none,[7]⟩,⟨some 5,.move (.t 6),none,[6]⟩] none [6,7]) (.seq (.region [⟨some 2,.bin .eql .none (.t 5) (.c (.d (.int .i64 0))),none,[]⟩] none []) (.cond (.t 2) (.seq (.region [⟨some 6,.move (.t 4),none,[4]⟩,⟨some 3,.move (.t 6),none,[6]⟩] none [6]) .ret) (.seq .skip (.region [⟨some 6,.move (.t 4),none,[]⟩,⟨some 6,.bin .add .none (.t 6) (.t 5),none,[]⟩,⟨some 4,.move (.t 6),none,[6]⟩] none [6])))))))))) (.seq (.region [⟨some 3,.move (.c (.d (.int .i64 (-1)))),none,[]⟩] none []) .ret)),[.t 3]⟩
def c19:CFn:=
 ⟨1,8,false,.seq (.region [⟨some 5,.box (.t 0),none,[]⟩,⟨some 3,.move (.c (.fslice [])),none,[]⟩,⟨some 4,.move (.c (.d (.int .i64 0))),none,[]⟩] none []) (.seq (.region [⟨some 7,.load true 5 (.t 5),none,[]⟩,⟨some 7,.call 13 [.t 7],none,[]⟩,⟨some 1,.un .not (.t 7),none,[]⟩] none [7]) (.cond (.t 1) (.seq (.region [⟨some 3,.move (.c (.fslice [])),none,[]⟩,⟨some 4,.move (.c (.d (.int .i64 1))),none,[]⟩] none []) .ret) (.seq .skip (.seq (.region [⟨some 7,.load true 5 (.t 5),none,[]⟩,⟨some 7,.call 30 [.t 7],none,[]⟩,⟨some 7,.call 33 [.t 7],none,[]⟩,⟨some 6,.move (.t 7),none,[7]⟩] none [7]) (.seq (.region [⟨some 7,.len .str (.t 6),none,[]⟩,⟨some 2,.bin .gtr .none (.t 7) (.c (.d (.int .i64 16384))),none,[]⟩] none [7]) (.cond (.t 2) (.seq (.region [⟨some 3,.move (.c (.fslice [])),none,[]⟩,⟨some 4,.move (.c (.d (.int .i64 13))),none,[]⟩] none []) .ret) (.seq .skip (.seq (.region [⟨some 7,.toBytes (.t 6),none,[]⟩,⟨some 3,.move (.t 7),none,[7]⟩,⟨some 4,.move (.c (.d (.int .i64 0))),none,[]⟩] none [7]) .ret)))))))),[.t 3,.t 4]⟩
def c20:CFn:=
 ⟨1,4,false,.seq (.region [⟨some 2,.box (.t 0),none,[]⟩,⟨some 1,.move (.c (boolD false)),none,[]⟩] none []) (.seq (.region [⟨some 3,.load true 5 (.t 2),none,[]⟩,⟨some 3,.call 34 [.t 3,.c (.d (.int .i64 12))],none,[]⟩,⟨some 1,.move (.t 3),none,[3]⟩] none [3]) .ret),[.t 1]⟩
def c21:CFn:=
 ⟨1,5,false,.seq (.region [⟨some 3,.box (.t 0),none,[]⟩,⟨some 2,.new [.d (.int .i64 0),.d (.int .i64 0),.d (.str []),.fslice [],.fslice []],none,[]⟩] none []) (.seq (.region [⟨some 4,.load true 5 (.t 3),none,[]⟩,⟨some 4,.call 20 [.t 4],none,[]⟩,⟨some 1,.un .not (.t 4),none,[]⟩] none [4]) (.cond (.t 1) (.seq (.region [⟨some 4,.build [.d (.int .i64 0),.d (.int .i64 0),.d (.str []),.fslice [],.fslice []] [],none,[]⟩,⟨none,.store 5 (.t 2) (.t 4),none,[4]⟩] none [4]) .ret) (.seq .skip (.seq (.region [⟨some 4,.load true 5 (.t 3),none,[]⟩,⟨some 4,.call 27 [.t 4],none,[]⟩,⟨none,.store 5 (.t 2) (.t 4),none,[4]⟩] none [4]) .ret)))),[.cell 2 true 5]⟩
def c22:CFn:=
 ⟨1,12,false,.seq (.region [⟨some 4,.move (.c (.d (.int .i64 0))),none,[]⟩] none []) (.seq (.seq (.region [⟨some 5,.rngStr (.t 0),none,[]⟩] none []) (.block 0 (.loop (.seq (.region [⟨some 6,.nextStr (.t 5),none,[]⟩,⟨some 1,.extract (.t 6) 0,none,[]⟩] none []) (.seq (.cond (.t 1) .skip (.exit 0)) (.block 1 (.seq (.region [⟨some 10,.extract (.t 6) 1,none,[]⟩,⟨some 11,.extract (.t 6) 2,none,[]⟩,⟨some 7,.move (.t 10),none,[10]⟩,⟨some 8,.move (.t 11),none,[11]⟩] none [10,11]) (.seq (.region [⟨some 2,.bin .eql .none (.t 8) (.c (.d (.int .i32 65533))),none,[]⟩] none []) (.cond (.t 2) (.seq (.region [⟨some 10,.slStr (.t 0) (some (.t 7)) none,none,[]⟩,⟨some 10,.call 35 [.t 10],none,[]⟩,⟨some 11,.extract (.t 10) 0,none,[]⟩,⟨some 10,.extract (.t 10) 1,none,[]⟩,⟨some 11,.move (.t 11),none,[11]⟩,⟨some 9,.move (.t 10),none,[10]⟩] none [10,11]) (.seq (.region [⟨some 3,.bin .eql .none (.t 9) (.c (.d (.int .i64 1))),none,[]⟩] none []) (.cond (.t 3) (.seq (.region [⟨some 10,.move (.t 7),none,[7]⟩,⟨some 4,.move (.t 10),none,[10]⟩] none [10]) .ret) .skip))) .skip))))))))) (.seq (.region [⟨some 4,.move (.c (.d (.int .i64 (-1)))),none,[]⟩] none []) .ret)),[.t 4]⟩
def c24:CFn:=
 ⟨1,5,true,.block 0 (.loop (.seq (.seq (.region [⟨some 2,.nilCheck (.t 0),none,[]⟩,⟨some 2,.fieldAddr 1 (.t 2),none,[]⟩,⟨some 2,.load false 1 (.t 2),none,[]⟩,⟨some 3,.nilCheck (.t 0),none,[]⟩,⟨some 3,.fieldAddr 0 (.t 3),none,[]⟩,⟨some 3,.load false 1 (.t 3),none,[]⟩,⟨some 3,.len .str (.t 3),none,[]⟩,⟨some 2,.bin .lss .none (.t 2) (.t 3),none,[]⟩,⟨some 3,.move (.t 0),some (2,true),[]⟩,⟨some 3,.nilCheck (.t 3),some (2,true),[]⟩,⟨some 3,.fieldAddr 0 (.t 3),some (2,true),[]⟩,⟨some 3,.load false 1 (.t 3),some (2,true),[]⟩,⟨some 4,.move (.t 0),some (2,true),[]⟩,⟨some 4,.nilCheck (.t 4),some (2,true),[]⟩,⟨some 4,.fieldAddr 1 (.t 4),some (2,true),[]⟩,⟨some 4,.load false 1 (.t 4),some (2,true),[]⟩,⟨some 3,.idxStr (.t 3) (.t 4),some (2,true),[]⟩,⟨some 3,.call 36 [.c (.d (.str [32,9,10,13])),.t 3],some (2,true),[]⟩,⟨some 3,.bin .geq .none (.t 3) (.c (.d (.int .i64 0))),some (2,true),[]⟩,⟨some 1,.pick (.t 2) (.t 3) (.c (boolD false)),none,[]⟩] none [2,3,4]) (.cond (.t 1) .skip (.exit 0))) (.block 1 (.region [⟨some 2,.nilCheck (.t 0),none,[]⟩,⟨some 2,.fieldAddr 1 (.t 2),none,[]⟩,⟨some 2,.load false 1 (.t 2),none,[]⟩,⟨some 2,.bin .add .none (.t 2) (.c (.d (.int .i64 1))),none,[]⟩,⟨some 3,.nilCheck (.t 0),none,[]⟩,⟨some 3,.fieldAddr 1 (.t 3),none,[]⟩,⟨none,.store 1 (.t 3) (.t 2),none,[2]⟩] none [2,3])))),[]⟩
def c25:CFn:=
 ⟨2,18,true,.seq (.region [⟨some 10,.new [.d (.int .i64 0),.d (.int .i64 0),.d (.str []),.fslice [],.fslice []],none,[]⟩] none []) (.seq (.region [⟨some 15,.call 37 [.t 0],none,[]⟩,⟨some 11,.move (.t 15),none,[15]⟩] none [15]) (.seq (.seq (.region [⟨some 15,.bin .gtr .none (.t 1) (.c (.d (.int .i64 12))),none,[]⟩,⟨some 16,.move (.t 11),some (15,true),[]⟩,⟨some 16,.bin .neq .none (.t 16) (.c (.d (.int .u8 0))),some (15,true),[]⟩,⟨some 15,.pick (.t 15) (.t 16) (.c (boolD false)),none,[]⟩,⟨some 16,.move (.t 11),some (15,true),[]⟩,⟨some 16,.call 38 [.t 16],some (15,true),[]⟩,⟨some 16,.move (.t 16),some (15,true),[]⟩,⟨some 17,.move (.t 11),some (16,false),[]⟩,⟨some 17,.call 36 [.c (.d (.str [91,123,34,110,116,102,45])),.t 17],some (16,false),[]⟩,⟨some 17,.bin .geq .none (.t 17) (.c (.d (.int .i64 0))),some (16,false),[]⟩,⟨some 16,.pick (.t 16) (.c (boolD true)) (.t 17),some (15,true),[]⟩,⟨some 2,.pick (.t 15) (.t 16) (.c (boolD false)),none,[]⟩] none [15,16,17]) (.cond (.t 2) (.region [⟨some 15,.nilCheck (.t 0),none,[]⟩,⟨some 15,.fieldAddr 1 (.t 15),none,[]⟩,⟨some 15,.load false 1 (.t 15),none,[]⟩,⟨some 15,.call 26 [.t 0,.c (.d (.int .i64 12)),.t 15],none,[]⟩] none [15]) .skip)) (.seq (.seq (.region [⟨some 12,.move (.t 11),none,[]⟩] none []) (.block 0 (.seq (.region [⟨some 15,.bin .eql .none (.t 12) (.c (.d (.int .u8 91))),none,[]⟩,⟨some 3,.move (.t 15),none,[15]⟩] none [15]) (.cond (.t 3) (.seq (.region [⟨some 15,.nilCheck (.t 0),none,[]⟩,⟨some 15,.fieldAddr 1 (.t 15),none,[]⟩,⟨some 15,.load false 1 (.t 15),none,[]⟩,⟨some 15,.bin .add .none (.t 15) (.c (.d (.int .i64 1))),none,[]⟩,⟨some 16,.nilCheck (.t 0),none,[]⟩,⟨some 16,.fieldAddr 1 (.t 16),none,[]⟩,⟨none,.store 1 (.t 16) (.t 15),none,[15]⟩] none [15,16]) (.seq (.region [⟨some 15,.build [.d (.int .i64 0),.d (.int .i64 0),.d (.str []),.fslice [],.fslice []] [(0,1,.c (.d (.int .i64 4)))],none,[]⟩,⟨some 13,.new [.d (.int .i64 0),.d (.int .i64 0),.d (.str []),.fslice [],.fslice []],none,[]⟩,⟨none,.store 5 (.t 13) (.t 15),none,[15]⟩] none [15]) (.seq (.seq (.region [⟨some 14,.move (.c (boolD true)),none,[]⟩] none []) (.block 1 (.loop (.seq (.seq (.region [⟨some 4,.call 39 [.t 0,.t 14,.c (.d (.int .u8 93))],none,[]⟩] none []) (.cond (.t 4) .skip (.exit 1))) (.seq (.block 2 (.region [⟨some 15,.fieldAddr 4 (.t 13),none,[]⟩,⟨some 15,.loadTake (.t 15),none,[]⟩,⟨some 16,.move (.t 0),none,[]⟩,⟨some 17,.move (.t 1),none,[]⟩,⟨some 17,.bin .add .none (.t 17) (.c (.d (.int .i64 1))),none,[]⟩,⟨some 16,.call 25 [.t 16,.t 17],none,[]⟩,⟨some 16,.buildSl 5 (.agg [.d (.int .i64 0),.d (.int .i64 0),.d (.str []),.fslice [],.fslice []]) 1 [(0,.t 16)],none,[]⟩,⟨some 15,.append 5 80 false (.t 15) (.t 16),none,[15]⟩,⟨some 16,.fieldAddr 4 (.t 13),none,[]⟩,⟨none,.store 1 (.t 16) (.t 15),none,[15]⟩] (some ⟨[1,5,6,7,9],[],[(6,5),(7,1),(7,5),(7,6),(9,1),(9,5),(9,6),(9,7)],none⟩) [15,16,17])) (.region [⟨some 14,.move (.c (boolD false)),none,[]⟩] none [])))))) (.seq (.region [⟨some 15,.load true 5 (.t 13),none,[]⟩,⟨none,.store 5 (.t 10) (.t 15),none,[15]⟩] none [15]) .ret)))) (.seq (.region [⟨some 15,.bin .eql .none (.t 12) (.c (.d (.int .u8 123))),none,[]⟩,⟨some 5,.move (.t 15),none,[15]⟩] none [15]) (.cond (.t 5) (.seq (.region [⟨some 15,.nilCheck (.t 0),none,[]⟩,⟨some 15,.fieldAddr 1 (.t 15),none,[]⟩,⟨some 15,.load false 1 (.t 15),none,[]⟩,⟨some 15,.bin .add .none (.t 15) (.c (.d (.int .i64 1))),none,[]⟩,⟨some 16,.nilCheck (.t 0),none,[]⟩,⟨some 16,.fieldAddr 1 (.t 16),none,[]⟩,⟨none,.store 1 (.t 16) (.t 15),none,[15]⟩] none [15,16]) (.seq (.region [⟨some 15,.call 40 [.t 0,.t 1],none,[]⟩,⟨none,.store 5 (.t 10) (.t 15),none,[15]⟩] none [15]) .ret)) (.seq (.region [⟨some 15,.bin .eql .none (.t 12) (.c (.d (.int .u8 34))),none,[]⟩,⟨some 6,.move (.t 15),none,[15]⟩] none [15]) (.cond (.t 6) (.seq (.region [⟨some 15,.call 41 [.t 0],none,[]⟩,⟨some 15,.build [.d (.int .i64 0),.d (.int .i64 0),.d (.str []),.fslice [],.fslice []] [(0,1,.c (.d (.int .i64 3))),(2,1,.t 15)],none,[]⟩,⟨none,.store 5 (.t 10) (.t 15),none,[15]⟩] none [15]) .ret) (.seq (.region [⟨some 15,.bin .eql .none (.t 12) (.c (.d (.int .u8 110))),none,[]⟩,⟨some 7,.move (.t 15),none,[15]⟩] none [15]) (.cond (.t 7) (.seq (.region [⟨some 15,.build [.d (.int .i64 0),.d (.int .i64 0),.d (.str []),.fslice [],.fslice []] [],none,[]⟩,⟨some 15,.call 42 [.t 0,.c (.d (.str [110,117,108,108])),.t 15],none,[]⟩,⟨none,.store 5 (.t 10) (.t 15),none,[15]⟩] none [15]) .ret) (.seq (.region [⟨some 15,.bin .eql .none (.t 12) (.c (.d (.int .u8 116))),none,[]⟩,⟨some 8,.move (.t 15),none,[15]⟩] none [15]) (.cond (.t 8) (.seq (.region [⟨some 15,.build [.d (.int .i64 0),.d (.int .i64 0),.d (.str []),.fslice [],.fslice []] [(0,1,.c (.d (.int .i64 1))),(1,1,.c (.d (.int .i64 1)))],none,[]⟩,⟨some 15,.call 42 [.t 0,.c (.d (.str [116,114,117,101])),.t 15],none,[]⟩,⟨none,.store 5 (.t 10) (.t 15),none,[15]⟩] none [15]) .ret) (.seq (.region [⟨some 15,.bin .eql .none (.t 12) (.c (.d (.int .u8 102))),none,[]⟩,⟨some 9,.move (.t 15),none,[15]⟩] none [15]) (.cond (.t 9) (.seq (.region [⟨some 15,.build [.d (.int .i64 0),.d (.int .i64 0),.d (.str []),.fslice [],.fslice []] [(0,1,.c (.d (.int .i64 1)))],none,[]⟩,⟨some 15,.call 42 [.t 0,.c (.d (.str [102,97,108,115,101])),.t 15],none,[]⟩,⟨none,.store 5 (.t 10) (.t 15),none,[15]⟩] none [15]) .ret) .skip)))))))))))))) (.seq (.region [⟨some 15,.call 43 [.t 0],none,[]⟩,⟨none,.store 5 (.t 10) (.t 15),none,[15]⟩] none [15]) .ret)))),[.cell 10 true 5]⟩
def c26:CFn:=
 ⟨3,4,true,.region [⟨some 3,.build [.d (.int .i64 0),.d (.int .i64 0)] [(0,1,.t 1),(1,1,.t 2)],none,[]⟩,⟨some 3,.mkIface 45 (.t 3),none,[]⟩,⟨none,.panic (.t 3),none,[]⟩] none [3],[]⟩
def c27:CFn:=
 ⟨1,18,false,.seq (.region [⟨some 5,.box (.t 0),none,[]⟩,⟨some 4,.new [.d (.int .i64 0),.d (.int .i64 0),.d (.str []),.fslice [],.fslice []],none,[]⟩] none []) (.seq (.region [⟨some 15,.fieldAddr 0 (.t 5),none,[]⟩,⟨some 15,.load false 1 (.t 15),none,[]⟩,⟨some 16,.fieldAddr 1 (.t 5),none,[]⟩,⟨some 16,.load false 1 (.t 16),none,[]⟩,⟨some 17,.fieldAddr 2 (.t 5),none,[]⟩,⟨some 17,.load false 1 (.t 17),none,[]⟩,⟨some 15,.build [.d (.int .i64 0),.d (.int .i64 0),.d (.str []),.fslice [],.fslice []] [(0,1,.t 15),(1,1,.t 16),(2,1,.t 17)],none,[]⟩,⟨some 6,.new [.d (.int .i64 0),.d (.int .i64 0),.d (.str []),.fslice [],.fslice []],none,[]⟩,⟨none,.store 5 (.t 6) (.t 15),none,[15]⟩] none [15,16,17]) (.seq (.region [⟨some 15,.fieldAddr 0 (.t 5),none,[]⟩,⟨some 15,.load false 1 (.t 15),none,[]⟩,⟨some 1,.bin .eql .none (.t 15) (.c (.d (.int .i64 5))),none,[]⟩] none [15]) (.cond (.t 1) (.seq (.seq (.region [⟨some 15,.fieldAddr 3 (.t 5),none,[]⟩,⟨some 15,.load false 1 (.t 15),none,[]⟩,⟨some 7,.call 44 [.t 15],none,[]⟩,⟨some 8,.len .sl (.t 7),none,[]⟩,⟨some 9,.move (.c (.d (.int .i64 0))),none,[]⟩] none [15]) (.block 0 (.loop (.seq (.region [⟨some 2,.bin .lss .none (.t 9) (.t 8),none,[]⟩] none []) (.seq (.cond (.t 2) .skip (.exit 0)) (.seq (.block 1 (.seq (.region [⟨some 15,.idxSl 1 (.t 7) (.t 9),none,[]⟩,⟨some 15,.load false 1 (.t 15),none,[]⟩,⟨some 10,.move (.t 15),none,[15]⟩] none [15]) (.seq (.region [⟨some 15,.fieldAddr 3 (.t 6),none,[]⟩,⟨some 15,.loadTake (.t 15),none,[]⟩,⟨some 16,.fieldAddr 3 (.t 5),none,[]⟩,⟨some 16,.load false 1 (.t 16),none,[]⟩,⟨some 17,.move (.t 10),none,[]⟩,⟨some 16,.idxSl 1 (.t 16) (.t 17),none,[]⟩,⟨some 16,.load false 1 (.t 16),none,[]⟩,⟨some 16,.buildSl 1 (.d (.str [])) 1 [(0,.t 16)],none,[]⟩,⟨some 15,.append 1 16 false (.t 15) (.t 16),none,[15]⟩,⟨some 16,.fieldAddr 3 (.t 6),none,[]⟩,⟨none,.store 1 (.t 16) (.t 15),none,[15]⟩] (some ⟨[1,7,8,10],[3,6],[(7,3),(7,6),(8,1),(8,7),(8,3),(8,6),(10,1),(10,7),(10,8),(10,3),(10,6),(6,3)],none⟩) [15,16,17]) (.region [⟨some 15,.fieldAddr 4 (.t 6),none,[]⟩,⟨some 15,.loadTake (.t 15),none,[]⟩,⟨some 16,.fieldAddr 4 (.t 5),none,[]⟩,⟨some 16,.load false 1 (.t 16),none,[]⟩,⟨some 17,.move (.t 10),none,[]⟩,⟨some 16,.idxSl 5 (.t 16) (.t 17),none,[]⟩,⟨some 16,.load true 5 (.t 16),none,[]⟩,⟨some 16,.call 27 [.t 16],none,[]⟩,⟨some 16,.buildSl 5 (.agg [.d (.int .i64 0),.d (.int .i64 0),.d (.str []),.fslice [],.fslice []]) 1 [(0,.t 16)],none,[]⟩,⟨some 15,.append 5 80 false (.t 15) (.t 16),none,[15]⟩,⟨some 16,.fieldAddr 4 (.t 6),none,[]⟩,⟨none,.store 1 (.t 16) (.t 15),none,[15]⟩] (some ⟨[1,7,8,9,11],[3,6],[(7,3),(7,6),(8,7),(8,3),(8,6),(9,1),(9,7),(9,8),(9,3),(9,6),(11,1),(11,7),(11,8),(11,9),(11,3),(11,6),(6,3)],none⟩) [15,16,17])))) (.region [⟨some 15,.bin .add .none (.t 9) (.c (.d (.int .i64 1))),none,[]⟩,⟨some 9,.move (.t 15),none,[]⟩] none [15]))))))) (.seq (.region [⟨some 15,.load true 5 (.t 6),none,[]⟩,⟨none,.store 5 (.t 4) (.t 15),none,[15]⟩] none [15]) .ret)) (.seq .skip (.seq (.seq (.region [⟨some 15,.fieldAddr 4 (.t 5),none,[]⟩,⟨some 11,.load false 1 (.t 15),none,[]⟩,⟨some 12,.len .sl (.t 11),none,[]⟩,⟨some 13,.move (.c (.d (.int .i64 0))),none,[]⟩] none [15]) (.block 2 (.loop (.seq (.region [⟨some 3,.bin .lss .none (.t 13) (.t 12),none,[]⟩] none []) (.seq (.cond (.t 3) .skip (.exit 2)) (.seq (.block 3 (.seq (.region [⟨some 15,.idxSl 5 (.t 11) (.t 13),none,[]⟩,⟨some 15,.load true 5 (.t 15),none,[]⟩,⟨some 14,.new [.d (.int .i64 0),.d (.int .i64 0),.d (.str []),.fslice [],.fslice []],none,[]⟩,⟨none,.store 5 (.t 14) (.t 15),none,[15]⟩] none [15]) (.region [⟨some 15,.fieldAddr 4 (.t 6),none,[]⟩,⟨some 15,.loadTake (.t 15),none,[]⟩,⟨some 16,.load true 5 (.t 14),none,[]⟩,⟨some 16,.call 27 [.t 16],none,[]⟩,⟨some 16,.buildSl 5 (.agg [.d (.int .i64 0),.d (.int .i64 0),.d (.str []),.fslice [],.fslice []]) 1 [(0,.t 16)],none,[]⟩,⟨some 15,.append 5 80 false (.t 15) (.t 16),none,[15]⟩,⟨some 16,.fieldAddr 4 (.t 6),none,[]⟩,⟨none,.store 1 (.t 16) (.t 15),none,[15]⟩] (some ⟨[1,3,4,5,7],[2],[(3,2),(4,3),(4,2),(5,1),(5,3),(5,4),(5,2),(7,1),(7,3),(7,4),(7,5),(7,2)],none⟩) [15,16]))) (.region [⟨some 15,.bin .add .none (.t 13) (.c (.d (.int .i64 1))),none,[]⟩,⟨some 13,.move (.t 15),none,[]⟩] none [15]))))))) (.seq (.region [⟨some 15,.load true 5 (.t 6),none,[]⟩,⟨none,.store 5 (.t 4) (.t 15),none,[15]⟩] none [15]) .ret)))))),[.cell 4 true 5]⟩
def c28:CFn:=
 ⟨2,28,false,.seq (.region [⟨some 13,.box (.t 1),none,[]⟩,⟨some 12,.move (.c (.fslice [])),none,[]⟩] none []) (.seq (.region [⟨some 25,.len .sl (.t 0),none,[]⟩,⟨some 2,.bin .gtr .none (.t 25) (.c (.d (.int .i64 16384))),none,[]⟩] none [25]) (.cond (.t 2) (.seq (.region [⟨some 25,.move (.t 0),none,[0]⟩,⟨some 12,.move (.t 25),none,[25]⟩] none [25]) .ret) (.seq .skip (.seq (.seq (.region [⟨some 25,.fieldAddr 0 (.t 13),none,[]⟩,⟨some 14,.load false 1 (.t 25),none,[]⟩] none [25]) (.block 0 (.seq (.region [⟨some 25,.bin .eql .none (.t 14) (.c (.d (.int .i64 1))),none,[]⟩,⟨some 3,.move (.t 25),none,[25]⟩] none [25]) (.cond (.t 3) (.seq (.region [⟨some 25,.move (.t 0),none,[0]⟩,⟨some 26,.fieldAddr 1 (.t 13),none,[]⟩,⟨some 26,.load false 1 (.t 26),none,[]⟩,⟨some 26,.bin .eql .none (.t 26) (.c (.d (.int .i64 1))),none,[]⟩,⟨some 25,.call 45 [.t 25,.t 26],none,[25]⟩,⟨some 12,.move (.t 25),none,[25]⟩] none [25,26]) .ret) (.seq (.region [⟨some 25,.bin .eql .none (.t 14) (.c (.d (.int .i64 2))),none,[]⟩,⟨some 4,.move (.t 25),none,[25]⟩] none [25]) (.cond (.t 4) (.seq (.region [⟨some 25,.move (.t 0),none,[0]⟩,⟨some 26,.fieldAddr 1 (.t 13),none,[]⟩,⟨some 26,.load false 1 (.t 26),none,[]⟩,⟨some 25,.call 46 [.t 25,.t 26,.c (.d (.int .i64 10))],none,[25]⟩,⟨some 12,.move (.t 25),none,[25]⟩] none [25,26]) .ret) (.seq (.region [⟨some 25,.bin .eql .none (.t 14) (.c (.d (.int .i64 3))),none,[]⟩,⟨some 5,.move (.t 25),none,[25]⟩] none [25]) (.cond (.t 5) (.seq (.region [⟨some 25,.move (.t 0),none,[0]⟩,⟨some 26,.fieldAddr 2 (.t 13),none,[]⟩,⟨some 26,.load false 1 (.t 26),none,[]⟩,⟨some 25,.call 47 [.t 25,.t 26],none,[25]⟩,⟨some 12,.move (.t 25),none,[25]⟩] none [25,26]) .ret) (.seq (.region [⟨some 25,.bin .eql .none (.t 14) (.c (.d (.int .i64 4))),none,[]⟩,⟨some 6,.move (.t 25),none,[25]⟩] none [25]) (.cond (.t 6) (.seq (.region [⟨some 25,.move (.t 0),none,[0]⟩,⟨some 26,.buildSl 1 (.d (.int .u8 0)) 1 [(0,.c (.d (.int .u8 91)))],none,[]⟩,⟨some 25,.append 1 1 false (.t 25) (.t 26),none,[25]⟩,⟨some 0,.move (.t 25),none,[25]⟩] none [25,26]) (.seq (.seq (.region [⟨some 25,.fieldAddr 4 (.t 13),none,[]⟩,⟨some 15,.load false 1 (.t 25),none,[]⟩,⟨some 16,.len .sl (.t 15),none,[]⟩,⟨some 17,.move (.c (.d (.int .i64 0))),none,[]⟩] none [25]) (.block 1 (.loop (.seq (.region [⟨some 7,.bin .lss .none (.t 17) (.t 16),none,[]⟩] none []) (.seq (.cond (.t 7) .skip (.exit 1)) (.seq (.block 2 (.seq (.region [⟨some 25,.move (.t 17),none,[17]⟩,⟨some 26,.idxSl 5 (.t 15) (.t 17),none,[]⟩,⟨some 26,.load true 5 (.t 26),none,[]⟩,⟨some 18,.new [.d (.int .i64 0),.d (.int .i64 0),.d (.str []),.fslice [],.fslice []],none,[]⟩,⟨some 19,.move (.t 25),none,[25]⟩,⟨none,.store 5 (.t 18) (.t 26),none,[26]⟩] none [25,26]) (.seq (.seq (.region [⟨some 8,.bin .gtr .none (.t 19) (.c (.d (.int .i64 0))),none,[]⟩] none []) (.cond (.t 8) (.region [⟨some 25,.move (.t 0),none,[0]⟩,⟨some 26,.buildSl 1 (.d (.int .u8 0)) 1 [(0,.c (.d (.int .u8 44)))],none,[]⟩,⟨some 25,.append 1 1 false (.t 25) (.t 26),none,[25]⟩,⟨some 0,.move (.t 25),none,[25]⟩] none [25,26]) .skip)) (.region [⟨some 25,.move (.t 0),none,[0]⟩,⟨some 26,.load true 5 (.t 18),none,[]⟩,⟨some 25,.call 28 [.t 25,.t 26],none,[25]⟩,⟨some 0,.move (.t 25),none,[25]⟩] none [25,26])))) (.region [⟨some 25,.bin .add .none (.t 17) (.c (.d (.int .i64 1))),none,[]⟩,⟨some 17,.move (.t 25),none,[]⟩] none [25]))))))) (.seq (.region [⟨some 25,.move (.t 0),none,[0]⟩,⟨some 26,.buildSl 1 (.d (.int .u8 0)) 1 [(0,.c (.d (.int .u8 93)))],none,[]⟩,⟨some 25,.append 1 1 false (.t 25) (.t 26),none,[25]⟩,⟨some 12,.move (.t 25),none,[25]⟩] none [25,26]) .ret))) (.seq (.region [⟨some 25,.bin .eql .none (.t 14) (.c (.d (.int .i64 5))),none,[]⟩,⟨some 9,.move (.t 25),none,[25]⟩] none [25]) (.cond (.t 9) (.seq (.region [⟨some 25,.move (.t 0),none,[0]⟩,⟨some 26,.buildSl 1 (.d (.int .u8 0)) 1 [(0,.c (.d (.int .u8 123)))],none,[]⟩,⟨some 25,.append 1 1 false (.t 25) (.t 26),none,[25]⟩,⟨some 0,.move (.t 25),none,[25]⟩] none [25,26]) (.seq (.seq (.region [⟨some 25,.fieldAddr 3 (.t 13),none,[]⟩,⟨some 25,.load false 1 (.t 25),none,[]⟩,⟨some 20,.call 44 [.t 25],none,[]⟩,⟨some 21,.len .sl (.t 20),none,[]⟩,⟨some 22,.move (.c (.d (.int .i64 0))),none,[]⟩] none [25]) (.block 3 (.loop (.seq (.region [⟨some 10,.bin .lss .none (.t 22) (.t 21),none,[]⟩] none []) (.seq (.cond (.t 10) .skip (.exit 3)) (.seq (.block 4 (.seq (.region [⟨some 25,.move (.t 22),none,[22]⟩,⟨some 26,.idxSl 1 (.t 20) (.t 22),none,[]⟩,⟨some 26,.load false 1 (.t 26),none,[]⟩,⟨some 23,.move (.t 25),none,[25]⟩,⟨some 24,.move (.t 26),none,[26]⟩] none [25,26]) (.seq (.seq (.region [⟨some 11,.bin .gtr .none (.t 23) (.c (.d (.int .i64 0))),none,[]⟩] none []) (.cond (.t 11) (.region [⟨some 25,.move (.t 0),none,[0]⟩,⟨some 26,.buildSl 1 (.d (.int .u8 0)) 1 [(0,.c (.d (.int .u8 44)))],none,[]⟩,⟨some 25,.append 1 1 false (.t 25) (.t 26),none,[25]⟩,⟨some 0,.move (.t 25),none,[25]⟩] none [25,26]) .skip)) (.region [⟨some 25,.move (.t 0),none,[0]⟩,⟨some 26,.fieldAddr 3 (.t 13),none,[]⟩,⟨some 26,.load false 1 (.t 26),none,[]⟩,⟨some 27,.move (.t 24),none,[]⟩,⟨some 26,.idxSl 1 (.t 26) (.t 27),none,[]⟩,⟨some 26,.load false 1 (.t 26),none,[]⟩,⟨some 25,.call 47 [.t 25,.t 26],none,[25]⟩,⟨some 26,.buildSl 1 (.d (.int .u8 0)) 1 [(0,.c (.d (.int .u8 58)))],none,[]⟩,⟨some 25,.append 1 1 false (.t 25) (.t 26),none,[25]⟩,⟨some 26,.fieldAddr 4 (.t 13),none,[]⟩,⟨some 26,.load false 1 (.t 26),none,[]⟩,⟨some 27,.move (.t 24),none,[]⟩,⟨some 26,.idxSl 5 (.t 26) (.t 27),none,[]⟩,⟨some 26,.load true 5 (.t 26),none,[]⟩,⟨some 25,.call 28 [.t 25,.t 26],none,[25]⟩,⟨some 0,.move (.t 25),none,[25]⟩] (some ⟨[6,7,8,14],[2,5,10,13],[(6,2),(6,5),(8,6),(8,7),(8,2),(8,5),(14,6),(14,7),(14,8),(14,2),(14,5),(14,10),(14,13),(5,2),(13,10)],none⟩) [25,26,27])))) (.region [⟨some 25,.bin .add .none (.t 22) (.c (.d (.int .i64 1))),none,[]⟩,⟨some 22,.move (.t 25),none,[]⟩] none [25]))))))) (.seq (.region [⟨some 25,.move (.t 0),none,[0]⟩,⟨some 26,.buildSl 1 (.d (.int .u8 0)) 1 [(0,.c (.d (.int .u8 125)))],none,[]⟩,⟨some 25,.append 1 1 false (.t 25) (.t 26),none,[25]⟩,⟨some 12,.move (.t 25),none,[25]⟩] none [25,26]) .ret))) .skip)))))))))))) (.seq (.region [⟨some 25,.move (.t 0),none,[0]⟩,⟨some 26,.buildSl 1 (.d (.int .u8 0)) 4 [(0,.c (.d (.int .u8 110))),(1,.c (.d (.int .u8 117))),(2,.c (.d (.int .u8 108))),(3,.c (.d (.int .u8 108)))],none,[]⟩,⟨some 25,.append 1 1 false (.t 25) (.t 26),none,[25]⟩,⟨some 12,.move (.t 25),none,[25]⟩] none [25,26]) .ret))))),[.t 12]⟩
def c29:CFn:=
 ⟨2,10,false,.seq (.region [⟨some 6,.box (.t 0),none,[]⟩,⟨some 5,.move (.c (boolD false)),none,[]⟩] none []) (.seq (.region [⟨some 8,.bin .lss .none (.t 1) (.c (.d (.int .i64 1))),none,[]⟩,⟨some 9,.load true 5 (.t 6),some (8,false),[]⟩,⟨some 9,.call 48 [.t 9],some (8,false),[]⟩,⟨some 9,.un .not (.t 9),some (8,false),[]⟩,⟨some 2,.pick (.t 8) (.c (boolD true)) (.t 9),none,[]⟩] none [8,9]) (.cond (.t 2) (.seq (.region [⟨some 5,.move (.c (boolD false)),none,[]⟩] none []) .ret) (.seq .skip (.seq (.seq (.region [⟨some 7,.move (.c (.d (.int .i64 0))),none,[]⟩] none []) (.block 0 (.loop (.seq (.seq (.region [⟨some 8,.fieldAddr 4 (.t 6),none,[]⟩,⟨some 8,.load false 1 (.t 8),none,[]⟩,⟨some 8,.len .sl (.t 8),none,[]⟩,⟨some 3,.bin .lss .none (.t 7) (.t 8),none,[]⟩] none [8]) (.cond (.t 3) .skip (.exit 0))) (.seq (.block 1 (.seq (.region [⟨some 8,.fieldAddr 4 (.t 6),none,[]⟩,⟨some 8,.load false 1 (.t 8),none,[]⟩,⟨some 8,.idxSl 5 (.t 8) (.t 7),none,[]⟩,⟨some 8,.load true 5 (.t 8),none,[]⟩,⟨some 9,.bin .sub .none (.t 1) (.c (.d (.int .i64 1))),none,[]⟩,⟨some 8,.call 29 [.t 8,.t 9],none,[]⟩,⟨some 4,.un .not (.t 8),none,[]⟩] none [8,9]) (.cond (.t 4) (.seq (.region [⟨some 5,.move (.c (boolD false)),none,[]⟩] none []) .ret) .skip))) (.region [⟨some 8,.move (.t 7),none,[]⟩,⟨some 8,.bin .add .none (.t 8) (.c (.d (.int .i64 1))),none,[]⟩,⟨some 7,.move (.t 8),none,[8]⟩] none [8])))))) (.seq (.region [⟨some 5,.move (.c (boolD true)),none,[]⟩] none []) .ret))))),[.t 5]⟩
def c30:CFn:=
 ⟨1,19,false,.seq (.region [⟨some 7,.box (.t 0),none,[]⟩,⟨some 6,.new [.d (.int .i64 0),.d (.int .i64 0),.d (.str []),.fslice [],.fslice []],none,[]⟩] none []) (.seq (.region [⟨some 14,.fieldAddr 0 (.t 7),none,[]⟩,⟨some 14,.load false 1 (.t 14),none,[]⟩,⟨some 15,.fieldAddr 1 (.t 7),none,[]⟩,⟨some 15,.load false 1 (.t 15),none,[]⟩,⟨some 16,.fieldAddr 2 (.t 7),none,[]⟩,⟨some 16,.load false 1 (.t 16),none,[]⟩,⟨some 14,.build [.d (.int .i64 0),.d (.int .i64 0),.d (.str []),.fslice [],.fslice []] [(0,1,.t 14),(1,1,.t 15),(2,1,.t 16)],none,[]⟩,⟨some 8,.new [.d (.int .i64 0),.d (.int .i64 0),.d (.str []),.fslice [],.fslice []],none,[]⟩,⟨none,.store 5 (.t 8) (.t 14),none,[14]⟩] none [14,15,16]) (.seq (.seq (.region [⟨some 14,.fieldAddr 0 (.t 7),none,[]⟩,⟨some 14,.load false 1 (.t 14),none,[]⟩,⟨some 1,.bin .eql .none (.t 14) (.c (.d (.int .i64 4))),none,[]⟩] none [14]) (.cond (.t 1) (.seq (.region [⟨some 9,.move (.c (.d (.int .i64 0))),none,[]⟩] none []) (.block 0 (.loop (.seq (.seq (.region [⟨some 14,.fieldAddr 4 (.t 7),none,[]⟩,⟨some 14,.load false 1 (.t 14),none,[]⟩,⟨some 14,.len .sl (.t 14),none,[]⟩,⟨some 2,.bin .lss .none (.t 9) (.t 14),none,[]⟩] none [14]) (.cond (.t 2) .skip (.exit 0))) (.seq (.block 1 (.region [⟨some 14,.fieldAddr 4 (.t 8),none,[]⟩,⟨some 14,.loadTake (.t 14),none,[]⟩,⟨some 15,.fieldAddr 4 (.t 7),none,[]⟩,⟨some 15,.load false 1 (.t 15),none,[]⟩,⟨some 16,.move (.t 9),none,[]⟩,⟨some 15,.idxSl 5 (.t 15) (.t 16),none,[]⟩,⟨some 15,.load true 5 (.t 15),none,[]⟩,⟨some 15,.call 30 [.t 15],none,[]⟩,⟨some 15,.buildSl 5 (.agg [.d (.int .i64 0),.d (.int .i64 0),.d (.str []),.fslice [],.fslice []]) 1 [(0,.t 15)],none,[]⟩,⟨some 14,.append 5 80 false (.t 14) (.t 15),none,[14]⟩,⟨some 15,.fieldAddr 4 (.t 8),none,[]⟩,⟨none,.store 1 (.t 15) (.t 14),none,[14]⟩] (some ⟨[1,7,8,9,11],[3,6],[(7,3),(7,6),(8,7),(8,3),(8,6),(9,1),(9,7),(9,8),(9,3),(9,6),(11,1),(11,7),(11,8),(11,9),(11,3),(11,6),(6,3)],none⟩) [14,15,16])) (.region [⟨some 14,.move (.t 9),none,[]⟩,⟨some 14,.bin .add .none (.t 14) (.c (.d (.int .i64 1))),none,[]⟩,⟨some 9,.move (.t 14),none,[14]⟩] none [14])))))) .skip)) (.seq (.region [⟨some 14,.fieldAddr 3 (.t 7),none,[]⟩,⟨some 14,.load false 1 (.t 14),none,[]⟩,⟨some 14,.len .sl (.t 14),none,[]⟩,⟨some 14,.mkSl 1 1 [boolD false] (.t 14) (.t 14),none,[]⟩,⟨some 10,.move (.t 14),none,[14]⟩] none [14]) (.seq (.seq (.region [⟨some 11,.move (.c (.d (.int .i64 0))),none,[]⟩] none []) (.block 2 (.loop (.seq (.seq (.region [⟨some 14,.fieldAddr 3 (.t 7),none,[]⟩,⟨some 14,.load false 1 (.t 14),none,[]⟩,⟨some 14,.len .sl (.t 14),none,[]⟩,⟨some 3,.bin .lss .none (.t 11) (.t 14),none,[]⟩] none [14]) (.cond (.t 3) .skip (.exit 2))) (.seq (.block 3 (.seq (.region [⟨some 12,.move (.c (.d (.int .i64 (-1)))),none,[]⟩] none []) (.seq (.seq (.region [⟨some 13,.move (.c (.d (.int .i64 0))),none,[]⟩] none []) (.block 4 (.loop (.seq (.seq (.region [⟨some 14,.fieldAddr 3 (.t 7),none,[]⟩,⟨some 14,.load false 1 (.t 14),none,[]⟩,⟨some 14,.len .sl (.t 14),none,[]⟩,⟨some 4,.bin .lss .none (.t 13) (.t 14),none,[]⟩] none [14]) (.cond (.t 4) .skip (.exit 4))) (.seq (.block 5 (.seq (.region [⟨some 14,.idxSl 1 (.t 10) (.t 13),none,[]⟩,⟨some 14,.load false 1 (.t 14),none,[]⟩,⟨some 14,.un .not (.t 14),none,[]⟩,⟨some 15,.move (.t 12),some (14,true),[]⟩,⟨some 15,.bin .lss .none (.t 15) (.c (.d (.int .i64 0))),some (14,true),[]⟩,⟨some 15,.move (.t 15),some (14,true),[]⟩,⟨some 16,.fieldAddr 3 (.t 7),some (15,false),[]⟩,⟨some 16,.load false 1 (.t 16),some (15,false),[]⟩,⟨some 17,.move (.t 13),some (15,false),[]⟩,⟨some 16,.idxSl 1 (.t 16) (.t 17),some (15,false),[]⟩,⟨some 16,.load false 1 (.t 16),some (15,false),[]⟩,⟨some 17,.fieldAddr 3 (.t 7),some (15,false),[]⟩,⟨some 17,.load false 1 (.t 17),some (15,false),[]⟩,⟨some 18,.move (.t 12),some (15,false),[]⟩,⟨some 17,.idxSl 1 (.t 17) (.t 18),some (15,false),[]⟩,⟨some 17,.load false 1 (.t 17),some (15,false),[]⟩,⟨some 16,.bin .lss .none (.t 16) (.t 17),some (15,false),[]⟩,⟨some 15,.pick (.t 15) (.c (boolD true)) (.t 16),some (14,true),[]⟩,⟨some 5,.pick (.t 14) (.t 15) (.c (boolD false)),none,[]⟩] none [14,15,16,17,18]) (.cond (.t 5) (.region [⟨some 14,.move (.t 13),none,[13]⟩,⟨some 12,.move (.t 14),none,[14]⟩] none [14]) .skip))) (.region [⟨some 14,.move (.t 13),none,[]⟩,⟨some 14,.bin .add .none (.t 14) (.c (.d (.int .i64 1))),none,[]⟩,⟨some 13,.move (.t 14),none,[14]⟩] none [14])))))) (.seq (.region [⟨some 14,.idxSl 1 (.t 10) (.t 12),none,[]⟩,⟨none,.store 1 (.t 14) (.c (boolD true)),none,[]⟩] none [14]) (.seq (.region [⟨some 14,.fieldAddr 3 (.t 8),none,[]⟩,⟨some 14,.loadTake (.t 14),none,[]⟩,⟨some 15,.fieldAddr 3 (.t 7),none,[]⟩,⟨some 15,.load false 1 (.t 15),none,[]⟩,⟨some 16,.move (.t 12),none,[]⟩,⟨some 15,.idxSl 1 (.t 15) (.t 16),none,[]⟩,⟨some 15,.load false 1 (.t 15),none,[]⟩,⟨some 15,.buildSl 1 (.d (.str [])) 1 [(0,.t 15)],none,[]⟩,⟨some 14,.append 1 16 false (.t 14) (.t 15),none,[14]⟩,⟨some 15,.fieldAddr 3 (.t 8),none,[]⟩,⟨none,.store 1 (.t 15) (.t 14),none,[14]⟩] (some ⟨[1,7,8,10],[3,6],[(7,3),(7,6),(8,1),(8,7),(8,3),(8,6),(10,1),(10,7),(10,8),(10,3),(10,6),(6,3)],none⟩) [14,15,16]) (.region [⟨some 14,.fieldAddr 4 (.t 8),none,[]⟩,⟨some 14,.loadTake (.t 14),none,[]⟩,⟨some 15,.fieldAddr 4 (.t 7),none,[]⟩,⟨some 15,.load false 1 (.t 15),none,[]⟩,⟨some 16,.move (.t 12),none,[]⟩,⟨some 15,.idxSl 5 (.t 15) (.t 16),none,[]⟩,⟨some 15,.load true 5 (.t 15),none,[]⟩,⟨some 15,.call 30 [.t 15],none,[]⟩,⟨some 15,.buildSl 5 (.agg [.d (.int .i64 0),.d (.int .i64 0),.d (.str []),.fslice [],.fslice []]) 1 [(0,.t 15)],none,[]⟩,⟨some 14,.append 5 80 false (.t 14) (.t 15),none,[14]⟩,⟨some 15,.fieldAddr 4 (.t 8),none,[]⟩,⟨none,.store 1 (.t 15) (.t 14),none,[14]⟩] (some ⟨[1,7,8,9,11],[3,6],[(7,3),(7,6),(8,7),(8,3),(8,6),(9,1),(9,7),(9,8),(9,3),(9,6),(11,1),(11,7),(11,8),(11,9),(11,3),(11,6),(6,3)],none⟩) [14,15,16])))))) (.region [⟨some 14,.move (.t 11),none,[]⟩,⟨some 14,.bin .add .none (.t 14) (.c (.d (.int .i64 1))),none,[]⟩,⟨some 11,.move (.t 14),none,[14]⟩] none [14])))))) (.seq (.region [⟨some 14,.load true 5 (.t 8),none,[]⟩,⟨none,.store 5 (.t 6) (.t 14),none,[14]⟩] none [14]) .ret))))),[.cell 6 true 5]⟩
def c31:CFn:=
 ⟨3,14,false,.seq (.region [⟨some 8,.box (.t 0),none,[]⟩,⟨some 7,.move (.c (.d (.int .i64 0))),none,[]⟩] none []) (.seq (.region [⟨some 11,.bin .lss .none (.t 1) (.c (.d (.int .i64 1))),none,[]⟩,⟨some 12,.move (.t 2),some (11,false),[]⟩,⟨some 12,.bin .lss .none (.t 12) (.c (.d (.int .i64 1))),some (11,false),[]⟩,⟨some 11,.pick (.t 11) (.c (boolD true)) (.t 12),none,[]⟩,⟨some 12,.fieldAddr 2 (.t 8),some (11,false),[]⟩,⟨some 12,.load false 1 (.t 12),some (11,false),[]⟩,⟨some 12,.len .str (.t 12),some (11,false),[]⟩,⟨some 12,.bin .gtr .none (.t 12) (.c (.d (.int .i64 2000))),some (11,false),[]⟩,⟨some 11,.pick (.t 11) (.c (boolD true)) (.t 12),none,[]⟩,⟨some 12,.fieldAddr 3 (.t 8),some (11,false),[]⟩,⟨some 12,.load false 1 (.t 12),some (11,false),[]⟩,⟨some 12,.len .sl (.t 12),some (11,false),[]⟩,⟨some 12,.bin .gtr .none (.t 12) (.c (.d (.int .i64 200))),some (11,false),[]⟩,⟨some 11,.pick (.t 11) (.c (boolD true)) (.t 12),none,[]⟩,⟨some 12,.fieldAddr 4 (.t 8),some (11,false),[]⟩,⟨some 12,.load false 1 (.t 12),some (11,false),[]⟩,⟨some 12,.len .sl (.t 12),some (11,false),[]⟩,⟨some 12,.bin .gtr .none (.t 12) (.c (.d (.int .i64 2000))),some (11,false),[]⟩,⟨some 3,.pick (.t 11) (.c (boolD true)) (.t 12),none,[]⟩] none [11,12]) (.cond (.t 3) (.seq (.region [⟨some 7,.move (.c (.d (.int .i64 (-1)))),none,[]⟩] none []) .ret) (.seq .skip (.seq (.region [⟨some 11,.move (.t 1),none,[]⟩,⟨some 11,.bin .sub .none (.t 11) (.c (.d (.int .i64 1))),none,[]⟩,⟨some 1,.move (.t 11),none,[11]⟩] none [11]) (.seq (.seq (.region [⟨some 9,.move (.c (.d (.int .i64 0))),none,[]⟩] none []) (.block 0 (.loop (.seq (.seq (.region [⟨some 11,.fieldAddr 3 (.t 8),none,[]⟩,⟨some 11,.load false 1 (.t 11),none,[]⟩,⟨some 11,.len .sl (.t 11),none,[]⟩,⟨some 4,.bin .lss .none (.t 9) (.t 11),none,[]⟩] none [11]) (.cond (.t 4) .skip (.exit 0))) (.seq (.block 1 (.seq (.region [⟨some 11,.fieldAddr 3 (.t 8),none,[]⟩,⟨some 11,.load false 1 (.t 11),none,[]⟩,⟨some 11,.idxSl 1 (.t 11) (.t 9),none,[]⟩,⟨some 11,.load false 1 (.t 11),none,[]⟩,⟨some 11,.len .str (.t 11),none,[]⟩,⟨some 5,.bin .gtr .none (.t 11) (.c (.d (.int .i64 2000))),none,[]⟩] none [11]) (.cond (.t 5) (.seq (.region [⟨some 7,.move (.c (.d (.int .i64 (-1)))),none,[]⟩] none []) .ret) .skip))) (.region [⟨some 11,.move (.t 9),none,[]⟩,⟨some 11,.bin .add .none (.t 11) (.c (.d (.int .i64 1))),none,[]⟩,⟨some 9,.move (.t 11),none,[11]⟩] none [11])))))) (.seq (.seq (.region [⟨some 10,.move (.c (.d (.int .i64 0))),none,[]⟩] none []) (.block 2 (.loop (.seq (.seq (.region [⟨some 11,.fieldAddr 4 (.t 8),none,[]⟩,⟨some 11,.load false 1 (.t 11),none,[]⟩,⟨some 11,.len .sl (.t 11),none,[]⟩,⟨some 11,.bin .lss .none (.t 10) (.t 11),none,[]⟩,⟨some 12,.move (.t 1),some (11,true),[]⟩,⟨some 12,.bin .geq .none (.t 12) (.c (.d (.int .i64 0))),some (11,true),[]⟩,⟨some 6,.pick (.t 11) (.t 12) (.c (boolD false)),none,[]⟩] none [11,12]) (.cond (.t 6) .skip (.exit 2))) (.seq (.block 3 (.region [⟨some 11,.fieldAddr 4 (.t 8),none,[]⟩,⟨some 11,.load false 1 (.t 11),none,[]⟩,⟨some 11,.idxSl 5 (.t 11) (.t 10),none,[]⟩,⟨some 11,.load true 5 (.t 11),none,[]⟩,⟨some 12,.move (.t 1),none,[]⟩,⟨some 13,.bin .sub .none (.t 2) (.c (.d (.int .i64 1))),none,[]⟩,⟨some 11,.call 31 [.t 11,.t 12,.t 13],none,[]⟩,⟨some 1,.move (.t 11),none,[11]⟩] none [11,12,13])) (.region [⟨some 11,.move (.t 10),none,[]⟩,⟨some 11,.bin .add .none (.t 11) (.c (.d (.int .i64 1))),none,[]⟩,⟨some 10,.move (.t 11),none,[11]⟩] none [11])))))) (.seq (.region [⟨some 11,.move (.t 1),none,[1]⟩,⟨some 7,.move (.t 11),none,[11]⟩] none [11]) .ret))))))),[.t 7]⟩
def c32:CFn:=
 ⟨2,19,false,.seq (.region [⟨some 9,.move (.c (.d (.int .i64 0))),none,[]⟩,⟨some 10,.move (.c (.d (.int .i64 0))),none,[]⟩] none []) (.seq (.region [⟨some 15,.idxStr (.t 0) (.t 1),none,[]⟩,⟨some 15,.toInt .i64 (.t 15),none,[]⟩,⟨some 11,.move (.t 15),none,[15]⟩] none [15]) (.seq (.region [⟨some 2,.bin .lss .none (.t 11) (.c (.d (.int .i64 128))),none,[]⟩] none []) (.cond (.t 2) (.seq (.region [⟨some 15,.move (.t 11),none,[11]⟩,⟨some 9,.move (.t 15),none,[15]⟩,⟨some 10,.move (.c (.d (.int .i64 1))),none,[]⟩] none [15]) .ret) (.seq .skip (.seq (.region [⟨some 12,.move (.c (.d (.int .i64 0))),none,[]⟩,⟨some 13,.move (.c (.d (.int .i64 0))),none,[]⟩] none []) (.seq (.block 0 (.seq (.region [⟨some 15,.bin .geq .none (.t 11) (.c (.d (.int .i64 192))),none,[]⟩,⟨some 16,.move (.t 11),some (15,true),[]⟩,⟨some 16,.bin .lss .none (.t 16) (.c (.d (.int .i64 224))),some (15,true),[]⟩,⟨some 15,.pick (.t 15) (.t 16) (.c (boolD false)),none,[]⟩,⟨some 3,.move (.t 15),none,[15]⟩] none [15,16]) (.cond (.t 3) (.seq (.region [⟨some 12,.move (.c (.d (.int .i64 1))),none,[]⟩] none []) (.seq (.region [⟨some 13,.move (.c (.d (.int .i64 128))),none,[]⟩] none []) (.region [⟨some 15,.move (.t 11),none,[]⟩,⟨some 15,.bin .and .none (.t 15) (.c (.d (.int .i64 31))),none,[]⟩,⟨some 11,.move (.t 15),none,[15]⟩] none [15]))) (.seq (.region [⟨some 15,.bin .geq .none (.t 11) (.c (.d (.int .i64 224))),none,[]⟩,⟨some 16,.move (.t 11),some (15,true),[]⟩,⟨some 16,.bin .lss .none (.t 16) (.c (.d (.int .i64 240))),some (15,true),[]⟩,⟨some 15,.pick (.t 15) (.t 16) (.c (boolD false)),none,[]⟩,⟨some 4,.move (.t 15),none,[15]⟩] none [15,16]) (.cond (.t 4) (.seq (.region [⟨some 12,.move (.c (.d (.int .i64 2))),none,[]⟩] none []) (.seq (.region [⟨some 13,.move (.c (.d (.int .i64 2048))),none,[]⟩] none []) (.region [⟨some 15,.move (.t 11),none,[]⟩,⟨some 15,.bin .and .none (.t 15) (.c (.d (.int .i64 15))),none,[]⟩,⟨some 11,.move (.t 15),none,[15]⟩] none [15]))) (.seq (.region [⟨some 15,.bin .geq .none (.t 11) (.c (.d (.int .i64 240))),none,[]⟩,⟨some 16,.move (.t 11),some (15,true),[]⟩,⟨some 16,.bin .lss .none (.t 16) (.c (.d (.int .i64 248))),some (15,true),[]⟩,⟨some 15,.pick (.t 15) (.t 16) (.c (boolD false)),none,[]⟩,⟨some 5,.move (.t 15),none,[15]⟩] none [15,16]) (.cond (.t 5) (.seq (.region [⟨some 12,.move (.c (.d (.int .i64 3))),none,[]⟩] none []) (.seq (.region [⟨some 13,.move (.c (.d (.int .i64 65536))),none,[]⟩] none []) (.region [⟨some 15,.move (.t 11),none,[]⟩,⟨some 15,.bin .and .none (.t 15) (.c (.d (.int .i64 7))),none,[]⟩,⟨some 11,.move (.t 15),none,[15]⟩] none [15]))) (.seq (.region [⟨some 9,.move (.c (.d (.int .i64 0))),none,[]⟩,⟨some 10,.move (.c (.d (.int .i64 0))),none,[]⟩] none []) .ret)))))))) (.seq (.seq (.region [⟨some 14,.move (.c (.d (.int .i64 1))),none,[]⟩] none []) (.block 1 (.loop (.seq (.seq (.region [⟨some 6,.bin .leq .none (.t 14) (.t 12),none,[]⟩] none []) (.cond (.t 6) .skip (.exit 1))) (.seq (.block 2 (.seq (.region [⟨some 15,.bin .add .none (.t 1) (.t 14),none,[]⟩,⟨some 16,.len .str (.t 0),none,[]⟩,⟨some 15,.bin .geq .none (.t 15) (.t 16),none,[]⟩,⟨some 16,.move (.t 0),some (15,false),[]⟩,⟨some 17,.move (.t 1),some (15,false),[]⟩,⟨some 18,.move (.t 14),some (15,false),[]⟩,⟨some 17,.bin .add .none (.t 17) (.t 18),some (15,false),[]⟩,⟨some 16,.idxStr (.t 16) (.t 17),some (15,false),[]⟩,⟨some 16,.bin .and .none (.t 16) (.c (.d (.int .u8 192))),some (15,false),[]⟩,⟨some 16,.bin .neq .none (.t 16) (.c (.d (.int .u8 128))),some (15,false),[]⟩,⟨some 7,.pick (.t 15) (.c (boolD true)) (.t 16),none,[]⟩] none [15,16,17,18]) (.cond (.t 7) (.seq (.region [⟨some 9,.move (.c (.d (.int .i64 0))),none,[]⟩,⟨some 10,.move (.c (.d (.int .i64 0))),none,[]⟩] none []) .ret) (.seq .skip (.region [⟨some 15,.move (.t 11),none,[]⟩,⟨some 15,.bin .shl .none (.t 15) (.c (.d (.int .u64 6))),none,[]⟩,⟨some 16,.bin .add .none (.t 1) (.t 14),none,[]⟩,⟨some 16,.idxStr (.t 0) (.t 16),none,[]⟩,⟨some 16,.bin .and .none (.t 16) (.c (.d (.int .u8 63))),none,[]⟩,⟨some 16,.toInt .i64 (.t 16),none,[]⟩,⟨some 15,.bin .or .none (.t 15) (.t 16),none,[]⟩,⟨some 11,.move (.t 15),none,[15]⟩] none [15,16]))))) (.region [⟨some 15,.move (.t 14),none,[]⟩,⟨some 15,.bin .add .none (.t 15) (.c (.d (.int .i64 1))),none,[]⟩,⟨some 14,.move (.t 15),none,[15]⟩] none [15])))))) (.seq (.region [⟨some 15,.bin .lss .none (.t 11) (.t 13),none,[]⟩,⟨some 16,.move (.t 11),some (15,false),[]⟩,⟨some 16,.call 49 [.t 16],some (15,false),[]⟩,⟨some 16,.un .not (.t 16),some (15,false),[]⟩,⟨some 8,.pick (.t 15) (.c (boolD true)) (.t 16),none,[]⟩] none [15,16]) (.cond (.t 8) (.seq (.region [⟨some 9,.move (.c (.d (.int .i64 0))),none,[]⟩,⟨some 10,.move (.c (.d (.int .i64 0))),none,[]⟩] none []) .ret) (.seq .skip (.seq (.region [⟨some 15,.move (.t 11),none,[11]⟩,⟨some 16,.bin .add .none (.t 12) (.c (.d (.int .i64 1))),none,[]⟩,⟨some 9,.move (.t 15),none,[15]⟩,⟨some 10,.move (.t 16),none,[16]⟩] none [15,16]) .ret))))))))))),[.t 9,.t 10]⟩
def c33:CFn:=
 ⟨1,21,false,.seq (.region [⟨some 12,.box (.t 0),none,[]⟩,⟨some 11,.move (.c (.d (.str []))),none,[]⟩] none []) (.seq (.seq (.region [⟨some 18,.fieldAddr 0 (.t 12),none,[]⟩,⟨some 13,.load false 1 (.t 18),none,[]⟩] none [18]) (.block 0 (.seq (.region [⟨some 18,.bin .eql .none (.t 13) (.c (.d (.int .i64 1))),none,[]⟩,⟨some 1,.move (.t 18),none,[18]⟩] none [18]) (.cond (.t 1) (.seq (.region [⟨some 18,.fieldAddr 1 (.t 12),none,[]⟩,⟨some 18,.load false 1 (.t 18),none,[]⟩,⟨some 2,.bin .eql .none (.t 18) (.c (.d (.int .i64 1))),none,[]⟩] none [18]) (.cond (.t 2) (.seq (.region [⟨some 11,.move (.c (.d (.str [116,114,117,101]))),none,[]⟩] none []) .ret) (.seq .skip (.seq (.region [⟨some 11,.move (.c (.d (.str [102,97,108,115,101]))),none,[]⟩] none []) .ret)))) (.seq (.region [⟨some 18,.bin .eql .none (.t 13) (.c (.d (.int .i64 2))),none,[]⟩,⟨some 3,.move (.t 18),none,[18]⟩] none [18]) (.cond (.t 3) (.seq (.region [⟨some 18,.fieldAddr 1 (.t 12),none,[]⟩,⟨some 18,.load false 1 (.t 18),none,[]⟩,⟨some 18,.call 50 [.t 18],none,[]⟩,⟨some 11,.move (.t 18),none,[18]⟩] none [18]) .ret) (.seq (.region [⟨some 18,.bin .eql .none (.t 13) (.c (.d (.int .i64 3))),none,[]⟩,⟨some 4,.move (.t 18),none,[18]⟩] none [18]) (.cond (.t 4) (.seq (.region [⟨some 18,.fieldAddr 2 (.t 12),none,[]⟩,⟨some 18,.load false 1 (.t 18),none,[]⟩,⟨some 18,.call 51 [.t 18],none,[]⟩,⟨some 11,.move (.t 18),none,[18]⟩] none [18]) .ret) (.seq (.region [⟨some 18,.bin .eql .none (.t 13) (.c (.d (.int .i64 4))),none,[]⟩,⟨some 5,.move (.t 18),none,[18]⟩] none [18]) (.cond (.t 5) (.seq (.region [⟨some 14,.move (.c (.d (.str [91]))),none,[]⟩] none []) (.seq (.seq (.region [⟨some 15,.move (.c (.d (.int .i64 0))),none,[]⟩] none []) (.block 1 (.loop (.seq (.seq (.region [⟨some 18,.fieldAddr 4 (.t 12),none,[]⟩,⟨some 18,.load false 1 (.t 18),none,[]⟩,⟨some 18,.len .sl (.t 18),none,[]⟩,⟨some 6,.bin .lss .none (.t 15) (.t 18),none,[]⟩] none [18]) (.cond (.t 6) .skip (.exit 1))) (.seq (.block 2 (.seq (.seq (.region [⟨some 7,.bin .gtr .none (.t 15) (.c (.d (.int .i64 0))),none,[]⟩] none []) (.cond (.t 7) (.region [⟨some 18,.move (.t 14),none,[]⟩,⟨some 18,.bin .add .none (.t 18) (.c (.d (.str [44]))),none,[]⟩,⟨some 14,.move (.t 18),none,[18]⟩] none [18]) .skip)) (.region [⟨some 18,.move (.t 14),none,[]⟩,⟨some 19,.fieldAddr 4 (.t 12),none,[]⟩,⟨some 19,.load false 1 (.t 19),none,[]⟩,⟨some 19,.idxSl 5 (.t 19) (.t 15),none,[]⟩,⟨some 19,.load true 5 (.t 19),none,[]⟩,⟨some 19,.call 33 [.t 19],none,[]⟩,⟨some 18,.bin .add .none (.t 18) (.t 19),none,[]⟩,⟨some 14,.move (.t 18),none,[18]⟩] none [18,19]))) (.region [⟨some 18,.move (.t 15),none,[]⟩,⟨some 18,.bin .add .none (.t 18) (.c (.d (.int .i64 1))),none,[]⟩,⟨some 15,.move (.t 18),none,[18]⟩] none [18])))))) (.seq (.region [⟨some 18,.bin .add .none (.t 14) (.c (.d (.str [93]))),none,[]⟩,⟨some 11,.move (.t 18),none,[18]⟩] none [18]) .ret))) (.seq (.region [⟨some 18,.bin .eql .none (.t 13) (.c (.d (.int .i64 5))),none,[]⟩,⟨some 8,.move (.t 18),none,[18]⟩] none [18]) (.cond (.t 8) (.seq (.region [⟨some 16,.move (.c (.d (.str [123]))),none,[]⟩] none []) (.seq (.seq (.region [⟨some 17,.move (.c (.d (.int .i64 0))),none,[]⟩] none []) (.block 3 (.loop (.seq (.seq (.region [⟨some 18,.fieldAddr 4 (.t 12),none,[]⟩,⟨some 18,.load false 1 (.t 18),none,[]⟩,⟨some 18,.len .sl (.t 18),none,[]⟩,⟨some 9,.bin .lss .none (.t 17) (.t 18),none,[]⟩] none [18]) (.cond (.t 9) .skip (.exit 3))) (.seq (.block 4 (.seq (.seq (.region [⟨some 10,.bin .gtr .none (.t 17) (.c (.d (.int .i64 0))),none,[]⟩] none []) (.cond (.t 10) (.region [⟨some 18,.move (.t 16),none,[]⟩,⟨some 18,.bin .add .none (.t 18) (.c (.d (.str [44]))),none,[]⟩,⟨some 16,.move (.t 18),none,[18]⟩] none [18]) .skip)) (.region [⟨some 18,.move (.t 16),none,[]⟩,⟨some 19,.fieldAddr 3 (.t 12),none,[]⟩,⟨some 19,.load false 1 (.t 19),none,[]⟩,⟨some 20,.move (.t 17),none,[]⟩,⟨some 19,.idxSl 1 (.t 19) (.t 20),none,[]⟩,⟨some 19,.load false 1 (.t 19),none,[]⟩,⟨some 19,.call 51 [.t 19],none,[]⟩,⟨some 18,.bin .add .none (.t 18) (.t 19),none,[]⟩,⟨some 18,.bin .add .none (.t 18) (.c (.d (.str [58]))),none,[]⟩,⟨some 19,.fieldAddr 4 (.t 12),none,[]⟩,⟨some 19,.load false 1 (.t 19),none,[]⟩,⟨some 20,.move (.t 17),none,[]⟩,⟨some 19,.idxSl 5 (.t 19) (.t 20),none,[]⟩,⟨some 19,.load true 5 (.t 19),none,[]⟩,⟨some 19,.call 33 [.t 19],none,[]⟩,⟨some 18,.bin .add .none (.t 18) (.t 19),none,[]⟩,⟨some 16,.move (.t 18),none,[18]⟩] (some ⟨[],[],[],some [([10,13],none)]⟩) [18,19,20]))) (.region [⟨some 18,.move (.t 17),none,[]⟩,⟨some 18,.bin .add .none (.t 18) (.c (.d (.int .i64 1))),none,[]⟩,⟨some 17,.move (.t 18),none,[18]⟩] none [18])))))) (.seq (.region [⟨some 18,.bin .add .none (.t 16) (.c (.d (.str [125]))),none,[]⟩,⟨some 11,.move (.t 18),none,[18]⟩] none [18]) .ret))) .skip)))))))))))) (.seq (.region [⟨some 11,.move (.c (.d (.str [110,117,108,108]))),none,[]⟩] none []) .ret)),[.t 11]⟩
def c34:CFn:=
 ⟨2,8,false,.seq (.region [⟨some 3,.box (.t 0),none,[]⟩,⟨some 4,.box (.t 1),none,[]⟩,⟨some 2,.move (.c (boolD false)),none,[]⟩] none []) (.seq (.region [⟨some 5,.load false 1 (.t 4),none,[]⟩,⟨some 5,.bin .gtr .none (.t 5) (.c (.d (.int .i64 0))),none,[]⟩,⟨some 6,.load true 5 (.t 3),some (5,true),[]⟩,⟨some 6,.call 52 [.t 6],some (5,true),[]⟩,⟨some 5,.pick (.t 5) (.t 6) (.c (boolD false)),none,[]⟩,⟨some 6,.fieldAddr 4 (.t 3),some (5,true),[]⟩,⟨some 6,.load false 1 (.t 6),some (5,true),[]⟩,⟨some 7,.mkFunc (.func 54) [.t 4],some (5,true),[]⟩,⟨some 6,.call 53 [.t 6,.t 7],some (5,true),[]⟩,⟨some 6,.un .not (.t 6),some (5,true),[]⟩,⟨some 5,.pick (.t 5) (.t 6) (.c (boolD false)),none,[]⟩,⟨some 2,.move (.t 5),none,[5]⟩] none [5,6,7]) .ret),[.t 2]⟩
def c36:CFn:=
 ⟨2,4,false,.seq (.region [⟨some 2,.move (.c (.d (.int .i64 0))),none,[]⟩] none []) (.seq (.region [⟨some 3,.call 56 [.t 0,.t 1],none,[]⟩,⟨some 2,.move (.t 3),none,[3]⟩] none [3]) .ret),[.t 2]⟩
def c37:CFn:=
 ⟨1,5,true,.seq (.region [⟨some 2,.move (.c (.d (.int .u8 0))),none,[]⟩] none []) (.seq (.region [⟨some 3,.nilCheck (.t 0),none,[]⟩,⟨some 3,.fieldAddr 1 (.t 3),none,[]⟩,⟨some 3,.load false 1 (.t 3),none,[]⟩,⟨some 4,.nilCheck (.t 0),none,[]⟩,⟨some 4,.fieldAddr 0 (.t 4),none,[]⟩,⟨some 4,.load false 1 (.t 4),none,[]⟩,⟨some 4,.len .str (.t 4),none,[]⟩,⟨some 1,.bin .eql .none (.t 3) (.t 4),none,[]⟩] none [3,4]) (.cond (.t 1) (.seq (.region [⟨some 2,.move (.c (.d (.int .u8 0))),none,[]⟩] none []) .ret) (.seq .skip (.seq (.region [⟨some 3,.nilCheck (.t 0),none,[]⟩,⟨some 3,.fieldAddr 0 (.t 3),none,[]⟩,⟨some 3,.load false 1 (.t 3),none,[]⟩,⟨some 4,.nilCheck (.t 0),none,[]⟩,⟨some 4,.fieldAddr 1 (.t 4),none,[]⟩,⟨some 4,.load false 1 (.t 4),none,[]⟩,⟨some 3,.idxStr (.t 3) (.t 4),none,[]⟩,⟨some 2,.move (.t 3),none,[3]⟩] none [3,4]) .ret)))),[.t 2]⟩
def c38:CFn:=
 ⟨1,4,false,.seq (.region [⟨some 1,.move (.c (boolD false)),none,[]⟩] none []) (.seq (.region [⟨some 2,.bin .leq .none (.c (.d (.int .u8 48))) (.t 0),none,[]⟩,⟨some 3,.move (.t 0),some (2,true),[]⟩,⟨some 3,.bin .leq .none (.t 3) (.c (.d (.int .u8 57))),some (2,true),[]⟩,⟨some 2,.pick (.t 2) (.t 3) (.c (boolD false)),none,[]⟩,⟨some 1,.move (.t 2),none,[2]⟩] none [2,3]) .ret),[.t 1]⟩
def c39:CFn:=
 ⟨3,9,true,.seq (.region [⟨some 5,.move (.c (boolD false)),none,[]⟩] none []) (.seq (.region [⟨some 6,.call 24 [.t 0],none,[]⟩] none [6]) (.seq (.region [⟨some 6,.call 37 [.t 0],none,[]⟩,⟨some 6,.bin .eql .none (.t 6) (.t 2),none,[]⟩,⟨some 7,.move (.t 0),some (6,true),[]⟩,⟨some 7,.nilCheck (.t 7),some (6,true),[]⟩,⟨some 7,.fieldAddr 1 (.t 7),some (6,true),[]⟩,⟨some 7,.load false 1 (.t 7),some (6,true),[]⟩,⟨some 8,.move (.t 0),some (6,true),[]⟩,⟨some 8,.nilCheck (.t 8),some (6,true),[]⟩,⟨some 8,.fieldAddr 0 (.t 8),some (6,true),[]⟩,⟨some 8,.load false 1 (.t 8),some (6,true),[]⟩,⟨some 8,.len .str (.t 8),some (6,true),[]⟩,⟨some 7,.bin .lss .none (.t 7) (.t 8),some (6,true),[]⟩,⟨some 3,.pick (.t 6) (.t 7) (.c (boolD false)),none,[]⟩] none [6,7,8]) (.cond (.t 3) (.seq (.region [⟨some 6,.nilCheck (.t 0),none,[]⟩,⟨some 6,.fieldAddr 1 (.t 6),none,[]⟩,⟨some 6,.load false 1 (.t 6),none,[]⟩,⟨some 6,.bin .add .none (.t 6) (.c (.d (.int .i64 1))),none,[]⟩,⟨some 7,.nilCheck (.t 0),none,[]⟩,⟨some 7,.fieldAddr 1 (.t 7),none,[]⟩,⟨none,.store 1 (.t 7) (.t 6),none,[6]⟩] none [6,7]) (.seq (.region [⟨some 5,.move (.c (boolD false)),none,[]⟩] none []) .ret)) (.seq .skip (.seq (.seq (.region [⟨some 4,.un .not (.t 1),none,[]⟩] none []) (.cond (.t 4) (.seq (.region [⟨some 6,.call 57 [.t 0,.c (.d (.int .u8 44))],none,[]⟩] none [6]) (.region [⟨some 6,.call 24 [.t 0],none,[]⟩] none [6])) .skip)) (.seq (.region [⟨some 5,.move (.c (boolD true)),none,[]⟩] none []) .ret)))))),[.t 5]⟩
def c40:CFn:=
 ⟨2,13,true,.seq (.region [⟨some 4,.new [.d (.int .i64 0),.d (.int .i64 0),.d (.str []),.fslice [],.fslice []],none,[]⟩] none []) (.seq (.region [⟨some 10,.build [.d (.int .i64 0),.d (.int .i64 0),.d (.str []),.fslice [],.fslice []] [(0,1,.c (.d (.int .i64 5)))],none,[]⟩,⟨some 5,.new [.d (.int .i64 0),.d (.int .i64 0),.d (.str []),.fslice [],.fslice []],none,[]⟩,⟨none,.store 5 (.t 5) (.t 10),none,[10]⟩] none [10]) (.seq (.region [⟨some 10,.mkMap .str,none,[]⟩,⟨some 6,.move (.t 10),none,[10]⟩] none [10]) (.seq (.seq (.region [⟨some 7,.move (.c (boolD true)),none,[]⟩] none []) (.block 0 (.loop (.seq (.seq (.region [⟨some 2,.call 39 [.t 0,.t 7,.c (.d (.int .u8 125))],none,[]⟩] none []) (.cond (.t 2) .skip (.exit 0))) (.seq (.block 1 (.seq (.region [⟨some 10,.nilCheck (.t 0),none,[]⟩,⟨some 10,.fieldAddr 1 (.t 10),none,[]⟩,⟨some 10,.load false 1 (.t 10),none,[]⟩,⟨some 8,.move (.t 10),none,[10]⟩] none [10]) (.seq (.region [⟨some 10,.call 41 [.t 0],none,[]⟩,⟨some 9,.move (.t 10),none,[10]⟩] none [10]) (.seq (.seq (.region [⟨some 3,.lookup .str (boolD false) (.t 6) (.t 9) false,none,[]⟩] none []) (.cond (.t 3) (.region [⟨some 10,.call 26 [.t 0,.c (.d (.int .i64 14)),.t 8],none,[]⟩] none [10]) .skip)) (.seq (.region [⟨none,.mapSet .str (.t 6) (.t 9) (.c (boolD true)),none,[]⟩] none []) (.seq (.region [⟨some 10,.call 24 [.t 0],none,[]⟩] none [10]) (.seq (.region [⟨some 10,.call 57 [.t 0,.c (.d (.int .u8 58))],none,[]⟩] none [10]) (.seq (.region [⟨some 10,.call 24 [.t 0],none,[]⟩] none [10]) (.seq (.region [⟨some 10,.fieldAddr 3 (.t 5),none,[]⟩,⟨some 10,.loadTake (.t 10),none,[]⟩,⟨some 11,.buildSl 1 (.d (.str [])) 1 [(0,.t 9)],none,[]⟩,⟨some 10,.append 1 16 false (.t 10) (.t 11),none,[10]⟩,⟨some 11,.fieldAddr 3 (.t 5),none,[]⟩,⟨none,.store 1 (.t 11) (.t 10),none,[10]⟩] none [10,11]) (.region [⟨some 10,.fieldAddr 4 (.t 5),none,[]⟩,⟨some 10,.loadTake (.t 10),none,[]⟩,⟨some 11,.move (.t 0),none,[]⟩,⟨some 12,.move (.t 1),none,[]⟩,⟨some 12,.bin .add .none (.t 12) (.c (.d (.int .i64 1))),none,[]⟩,⟨some 11,.call 25 [.t 11,.t 12],none,[]⟩,⟨some 11,.buildSl 5 (.agg [.d (.int .i64 0),.d (.int .i64 0),.d (.str []),.fslice [],.fslice []]) 1 [(0,.t 11)],none,[]⟩,⟨some 10,.append 5 80 false (.t 10) (.t 11),none,[10]⟩,⟨some 11,.fieldAddr 4 (.t 5),none,[]⟩,⟨none,.store 1 (.t 11) (.t 10),none,[10]⟩] (some ⟨[1,5,6,7,9],[],[(6,5),(7,1),(7,5),(7,6),(9,1),(9,5),(9,6),(9,7)],none⟩) [10,11,12])))))))))) (.region [⟨some 7,.move (.c (boolD false)),none,[]⟩] none [])))))) (.seq (.region [⟨some 10,.load true 5 (.t 5),none,[]⟩,⟨none,.store 5 (.t 4) (.t 10),none,[10]⟩] none [10]) .ret)))),[.cell 4 true 5]⟩
def c41:CFn:=
 ⟨1,9,true,.seq (.region [⟨some 4,.move (.c (.d (.str []))),none,[]⟩] none []) (.seq (.region [⟨some 7,.call 57 [.t 0,.c (.d (.int .u8 34))],none,[]⟩] none [7]) (.seq (.region [⟨some 5,.new [.d .nilptr,.fslice []],none,[]⟩] none []) (.block 0 (.loop (.block 1 (.seq (.region [⟨some 7,.call 37 [.t 0],none,[]⟩,⟨some 6,.move (.t 7),none,[7]⟩] none [7]) (.block 2 (.seq (.region [⟨some 7,.nilCheck (.t 0),none,[]⟩,⟨some 7,.fieldAddr 1 (.t 7),none,[]⟩,⟨some 7,.load false 1 (.t 7),none,[]⟩,⟨some 8,.nilCheck (.t 0),none,[]⟩,⟨some 8,.fieldAddr 0 (.t 8),none,[]⟩,⟨some 8,.load false 1 (.t 8),none,[]⟩,⟨some 8,.len .str (.t 8),none,[]⟩,⟨some 7,.bin .eql .none (.t 7) (.t 8),none,[]⟩,⟨some 8,.move (.t 6),some (7,false),[]⟩,⟨some 8,.bin .lss .none (.t 8) (.c (.d (.int .u8 32))),some (7,false),[]⟩,⟨some 7,.pick (.t 7) (.c (boolD true)) (.t 8),none,[]⟩,⟨some 1,.move (.t 7),none,[7]⟩] none [7,8]) (.cond (.t 1) (.region [⟨some 7,.nilCheck (.t 0),none,[]⟩,⟨some 7,.fieldAddr 1 (.t 7),none,[]⟩,⟨some 7,.load false 1 (.t 7),none,[]⟩,⟨some 7,.call 26 [.t 0,.c (.d (.int .i64 11)),.t 7],none,[]⟩] none [7]) (.seq (.region [⟨some 7,.bin .eql .none (.t 6) (.c (.d (.int .u8 34))),none,[]⟩,⟨some 2,.move (.t 7),none,[7]⟩] none [7]) (.cond (.t 2) (.seq (.region [⟨some 7,.nilCheck (.t 0),none,[]⟩,⟨some 7,.fieldAddr 1 (.t 7),none,[]⟩,⟨some 7,.load false 1 (.t 7),none,[]⟩,⟨some 7,.bin .add .none (.t 7) (.c (.d (.int .i64 1))),none,[]⟩,⟨some 8,.nilCheck (.t 0),none,[]⟩,⟨some 8,.fieldAddr 1 (.t 8),none,[]⟩,⟨none,.store 1 (.t 8) (.t 7),none,[7]⟩] none [7,8]) (.seq (.region [⟨some 7,.call 58 [.t 5],none,[]⟩,⟨some 4,.move (.t 7),none,[7]⟩] none [7]) .ret)) (.seq (.region [⟨some 7,.bin .eql .none (.t 6) (.c (.d (.int .u8 92))),none,[]⟩,⟨some 3,.move (.t 7),none,[7]⟩] none [7]) (.cond (.t 3) (.seq (.region [⟨some 7,.nilCheck (.t 0),none,[]⟩,⟨some 7,.fieldAddr 1 (.t 7),none,[]⟩,⟨some 7,.load false 1 (.t 7),none,[]⟩,⟨some 7,.bin .add .none (.t 7) (.c (.d (.int .i64 1))),none,[]⟩,⟨some 8,.nilCheck (.t 0),none,[]⟩,⟨some 8,.fieldAddr 1 (.t 8),none,[]⟩,⟨none,.store 1 (.t 8) (.t 7),none,[7]⟩] none [7,8]) (.region [⟨some 7,.call 60 [.t 0],none,[]⟩,⟨some 7,.call 59 [.t 5,.t 7],none,[]⟩] none [7])) (.seq (.region [⟨some 7,.call 61 [.t 5,.t 6],none,[]⟩] none [7]) (.region [⟨some 7,.nilCheck (.t 0),none,[]⟩,⟨some 7,.fieldAddr 1 (.t 7),none,[]⟩,⟨some 7,.load false 1 (.t 7),none,[]⟩,⟨some 7,.bin .add .none (.t 7) (.c (.d (.int .i64 1))),none,[]⟩,⟨some 8,.nilCheck (.t 0),none,[]⟩,⟨some 8,.fieldAddr 1 (.t 8),none,[]⟩,⟨none,.store 1 (.t 8) (.t 7),none,[7]⟩] none [7,8]))))))))))))))),[.t 4]⟩
def c42:CFn:=
 ⟨3,10,true,.seq (.region [⟨some 5,.box (.t 2),none,[]⟩,⟨some 4,.new [.d (.int .i64 0),.d (.int .i64 0),.d (.str []),.fslice [],.fslice []],none,[]⟩] none []) (.seq (.seq (.region [⟨some 6,.len .str (.t 1),none,[]⟩,⟨some 7,.move (.c (.d (.int .i64 0))),none,[]⟩] none []) (.block 0 (.loop (.seq (.region [⟨some 3,.bin .lss .none (.t 7) (.t 6),none,[]⟩] none []) (.seq (.cond (.t 3) .skip (.exit 0)) (.seq (.block 1 (.seq (.region [⟨some 9,.move (.t 7),none,[7]⟩,⟨some 8,.move (.t 9),none,[9]⟩] none [9]) (.region [⟨some 9,.idxStr (.t 1) (.t 8),none,[]⟩,⟨some 9,.call 57 [.t 0,.t 9],none,[]⟩] none [9]))) (.region [⟨some 9,.bin .add .none (.t 7) (.c (.d (.int .i64 1))),none,[]⟩,⟨some 7,.move (.t 9),none,[]⟩] none [9]))))))) (.seq (.region [⟨some 9,.load true 5 (.t 5),none,[]⟩,⟨none,.store 5 (.t 4) (.t 9),none,[9]⟩] none [9]) .ret)),[.cell 4 true 5]⟩
def c43:CFn:=
 ⟨1,16,true,.seq (.region [⟨some 8,.new [.d (.int .i64 0),.d (.int .i64 0),.d (.str []),.fslice [],.fslice []],none,[]⟩] none []) (.seq (.region [⟨some 13,.nilCheck (.t 0),none,[]⟩,⟨some 13,.fieldAddr 1 (.t 13),none,[]⟩,⟨some 13,.load false 1 (.t 13),none,[]⟩,⟨some 9,.move (.t 13),none,[13]⟩] none [13]) (.seq (.seq (.region [⟨some 13,.call 37 [.t 0],none,[]⟩,⟨some 1,.bin .eql .none (.t 13) (.c (.d (.int .u8 45))),none,[]⟩] none [13]) (.cond (.t 1) (.region [⟨some 13,.nilCheck (.t 0),none,[]⟩,⟨some 13,.fieldAddr 1 (.t 13),none,[]⟩,⟨some 13,.load false 1 (.t 13),none,[]⟩,⟨some 13,.bin .add .none (.t 13) (.c (.d (.int .i64 1))),none,[]⟩,⟨some 14,.nilCheck (.t 0),none,[]⟩,⟨some 14,.fieldAddr 1 (.t 14),none,[]⟩,⟨none,.store 1 (.t 14) (.t 13),none,[13]⟩] none [13,14]) .skip)) (.seq (.region [⟨some 13,.nilCheck (.t 0),none,[]⟩,⟨some 13,.fieldAddr 1 (.t 13),none,[]⟩,⟨some 13,.load false 1 (.t 13),none,[]⟩,⟨some 10,.move (.t 13),none,[13]⟩] none [13]) (.seq (.seq (.region [⟨some 13,.call 37 [.t 0],none,[]⟩,⟨some 13,.call 38 [.t 13],none,[]⟩,⟨some 2,.un .not (.t 13),none,[]⟩] none [13]) (.cond (.t 2) (.region [⟨some 13,.nilCheck (.t 0),none,[]⟩,⟨some 13,.fieldAddr 1 (.t 13),none,[]⟩,⟨some 13,.load false 1 (.t 13),none,[]⟩,⟨some 13,.call 26 [.t 0,.c (.d (.int .i64 11)),.t 13],none,[]⟩] none [13]) .skip)) (.seq (.region [⟨some 11,.move (.c (.d (.int .i64 0))),none,[]⟩] none []) (.seq (.block 0 (.loop (.seq (.seq (.region [⟨some 13,.call 37 [.t 0],none,[]⟩,⟨some 3,.call 38 [.t 13],none,[]⟩] none [13]) (.cond (.t 3) .skip (.exit 0))) (.block 1 (.seq (.seq (.region [⟨some 13,.nilCheck (.t 0),none,[]⟩,⟨some 13,.fieldAddr 1 (.t 13),none,[]⟩,⟨some 13,.load false 1 (.t 13),none,[]⟩,⟨some 14,.bin .add .none (.t 10) (.c (.d (.int .i64 1))),none,[]⟩,⟨some 13,.bin .eql .none (.t 13) (.t 14),none,[]⟩,⟨some 14,.move (.t 0),some (13,true),[]⟩,⟨some 14,.nilCheck (.t 14),some (13,true),[]⟩,⟨some 14,.fieldAddr 0 (.t 14),some (13,true),[]⟩,⟨some 14,.load false 1 (.t 14),some (13,true),[]⟩,⟨some 15,.move (.t 10),some (13,true),[]⟩,⟨some 14,.idxStr (.t 14) (.t 15),some (13,true),[]⟩,⟨some 14,.bin .eql .none (.t 14) (.c (.d (.int .u8 48))),some (13,true),[]⟩,⟨some 4,.pick (.t 13) (.t 14) (.c (boolD false)),none,[]⟩] none [13,14,15]) (.cond (.t 4) (.region [⟨some 13,.nilCheck (.t 0),none,[]⟩,⟨some 13,.fieldAddr 1 (.t 13),none,[]⟩,⟨some 13,.load false 1 (.t 13),none,[]⟩,⟨some 13,.call 26 [.t 0,.c (.d (.int .i64 11)),.t 13],none,[]⟩] none [13]) .skip)) (.seq (.seq (.region [⟨some 5,.bin .leq .none (.t 11) (.c (.d (.int .i64 9007199254740991))),none,[]⟩] none []) (.cond (.t 5) (.region [⟨some 13,.move (.t 11),none,[]⟩,⟨some 13,.bin .mul .none (.c (.d (.int .i64 10))) (.t 13),none,[]⟩,⟨some 14,.call 37 [.t 0],none,[]⟩,⟨some 14,.bin .sub .none (.t 14) (.c (.d (.int .u8 48))),none,[]⟩,⟨some 14,.toInt .i64 (.t 14),none,[]⟩,⟨some 13,.bin .add .none (.t 13) (.t 14),none,[]⟩,⟨some 11,.move (.t 13),none,[13]⟩] none [13,14]) .skip)) (.region [⟨some 13,.nilCheck (.t 0),none,[]⟩,⟨some 13,.fieldAddr 1 (.t 13),none,[]⟩,⟨some 13,.load false 1 (.t 13),none,[]⟩,⟨some 13,.bin .add .none (.t 13) (.c (.d (.int .i64 1))),none,[]⟩,⟨some 14,.nilCheck (.t 0),none,[]⟩,⟨some 14,.fieldAddr 1 (.t 14),none,[]⟩,⟨none,.store 1 (.t 14) (.t 13),none,[13]⟩] none [13,14]))))))) (.seq (.seq (.region [⟨some 13,.call 37 [.t 0],none,[]⟩,⟨some 12,.move (.t 13),none,[13]⟩] none [13]) (.seq (.region [⟨some 13,.bin .gtr .none (.t 11) (.c (.d (.int .i64 9007199254740991))),none,[]⟩,⟨some 14,.move (.t 12),some (13,false),[]⟩,⟨some 14,.bin .eql .none (.t 14) (.c (.d (.int .u8 46))),some (13,false),[]⟩,⟨some 13,.pick (.t 13) (.c (boolD true)) (.t 14),none,[]⟩,⟨some 14,.move (.t 12),some (13,false),[]⟩,⟨some 14,.bin .eql .none (.t 14) (.c (.d (.int .u8 101))),some (13,false),[]⟩,⟨some 13,.pick (.t 13) (.c (boolD true)) (.t 14),none,[]⟩,⟨some 14,.move (.t 12),some (13,false),[]⟩,⟨some 14,.bin .eql .none (.t 14) (.c (.d (.int .u8 69))),some (13,false),[]⟩,⟨some 6,.pick (.t 13) (.c (boolD true)) (.t 14),none,[]⟩] none [13,14]) (.cond (.t 6) (.region [⟨some 13,.call 26 [.t 0,.c (.d (.int .i64 15)),.t 9],none,[]⟩] none [13]) .skip))) (.seq (.seq (.region [⟨some 7,.bin .gtr .none (.t 10) (.t 9),none,[]⟩] none []) (.cond (.t 7) (.region [⟨some 13,.move (.t 11),none,[]⟩,⟨some 13,.un .neg (.t 13),none,[]⟩,⟨some 11,.move (.t 13),none,[13]⟩] none [13]) .skip)) (.seq (.region [⟨some 13,.build [.d (.int .i64 0),.d (.int .i64 0),.d (.str []),.fslice [],.fslice []] [(0,1,.c (.d (.int .i64 2))),(1,1,.t 11)],none,[]⟩,⟨none,.store 5 (.t 8) (.t 13),none,[13]⟩] none [13]) .ret))))))))),[.cell 8 true 5]⟩
def c44:CFn:=
 ⟨1,10,false,.seq (.region [⟨some 3,.box (.t 0),none,[]⟩,⟨some 2,.move (.c (.fslice [])),none,[]⟩] none []) (.seq (.region [⟨some 8,.load false 1 (.t 3),none,[]⟩,⟨some 8,.len .sl (.t 8),none,[]⟩,⟨some 8,.mkSl 1 8 [.d (.int .i64 0)] (.t 8) (.t 8),none,[]⟩,⟨some 4,.move (.t 8),none,[8]⟩] none [8]) (.seq (.seq (.region [⟨some 5,.len .sl (.t 4),none,[]⟩,⟨some 6,.move (.c (.d (.int .i64 0))),none,[]⟩] none []) (.block 0 (.loop (.seq (.region [⟨some 1,.bin .lss .none (.t 6) (.t 5),none,[]⟩] none []) (.seq (.cond (.t 1) .skip (.exit 0)) (.seq (.block 1 (.seq (.region [⟨some 8,.move (.t 6),none,[6]⟩,⟨some 7,.move (.t 8),none,[8]⟩] none [8]) (.region [⟨some 8,.move (.t 7),none,[7]⟩,⟨some 9,.idxSl 1 (.t 4) (.t 7),none,[]⟩,⟨none,.store 1 (.t 9) (.t 8),none,[8]⟩] none [8,9]))) (.region [⟨some 8,.bin .add .none (.t 6) (.c (.d (.int .i64 1))),none,[]⟩,⟨some 6,.move (.t 8),none,[]⟩] none [8]))))))) (.seq (.region [⟨some 8,.mkFunc (.func 63) [.t 3],none,[]⟩,⟨some 8,.call 62 [.t 4,.t 8],none,[]⟩] none [8]) (.seq (.region [⟨some 8,.move (.t 4),none,[4]⟩,⟨some 2,.move (.t 8),none,[8]⟩] none [8]) .ret)))),[.t 2]⟩
def c45:CFn:=
 ⟨2,4,false,.seq (.region [⟨some 2,.move (.c (.fslice [])),none,[]⟩] none []) (.seq (.region [⟨some 3,.move (.t 0),none,[0]⟩,⟨some 3,.call 64 [.t 3,.t 1],none,[3]⟩,⟨some 2,.move (.t 3),none,[3]⟩] none [3]) .ret),[.t 2]⟩
def c46:CFn:=
 ⟨3,5,false,.seq (.region [⟨some 3,.move (.c (.fslice [])),none,[]⟩] none []) (.seq (.region [⟨some 4,.move (.t 0),none,[0]⟩,⟨some 4,.call 65 [.t 4,.t 1,.t 2],none,[4]⟩,⟨some 3,.move (.t 4),none,[4]⟩] none [4]) .ret),[.t 3]⟩
def c47:CFn:=
 ⟨2,18,false,.seq (.region [⟨some 10,.move (.c (.fslice [])),none,[]⟩] none []) (.seq (.region [⟨some 15,.move (.t 0),none,[0]⟩,⟨some 16,.buildSl 1 (.d (.int .u8 0)) 1 [(0,.c (.d (.int .u8 34)))],none,[]⟩,⟨some 15,.append 1 1 false (.t 15) (.t 16),none,[15]⟩,⟨some 0,.move (.t 15),none,[15]⟩] none [15,16]) (.seq (.seq (.region [⟨some 11,.len .str (.t 1),none,[]⟩,⟨some 12,.move (.c (.d (.int .i64 0))),none,[]⟩] none []) (.block 0 (.loop (.seq (.region [⟨some 2,.bin .lss .none (.t 12) (.t 11),none,[]⟩] none []) (.seq (.cond (.t 2) .skip (.exit 0)) (.seq (.block 1 (.seq (.region [⟨some 15,.move (.t 12),none,[12]⟩,⟨some 13,.move (.t 15),none,[15]⟩] none [15]) (.seq (.region [⟨some 15,.idxStr (.t 1) (.t 13),none,[]⟩,⟨some 14,.move (.t 15),none,[15]⟩] none [15]) (.block 2 (.seq (.seq (.region [⟨some 15,.bin .eql .none (.t 14) (.c (.d (.int .u8 34))),none,[]⟩,⟨some 3,.move (.t 15),none,[15]⟩] none [15]) (.cond (.t 3) .skip (.region [⟨some 15,.bin .eql .none (.t 14) (.c (.d (.int .u8 92))),none,[]⟩,⟨some 3,.move (.t 15),none,[15]⟩] none [15]))) (.cond (.t 3) (.region [⟨some 15,.move (.t 0),none,[0]⟩,⟨some 16,.buildSl 1 (.d (.int .u8 0)) 2 [(0,.c (.d (.int .u8 92))),(1,.t 14)],none,[]⟩,⟨some 15,.append 1 1 false (.t 15) (.t 16),none,[15]⟩,⟨some 0,.move (.t 15),none,[15]⟩] none [15,16]) (.seq (.region [⟨some 15,.bin .eql .none (.t 14) (.c (.d (.int .u8 8))),none,[]⟩,⟨some 4,.move (.t 15),none,[15]⟩] none [15]) (.cond (.t 4) (.region [⟨some 15,.move (.t 0),none,[0]⟩,⟨some 16,.buildSl 1 (.d (.int .u8 0)) 2 [(0,.c (.d (.int .u8 92))),(1,.c (.d (.int .u8 98)))],none,[]⟩,⟨some 15,.append 1 1 false (.t 15) (.t 16),none,[15]⟩,⟨some 0,.move (.t 15),none,[15]⟩] none [15,16]) (.seq (.region [⟨some 15,.bin .eql .none (.t 14) (.c (.d (.int .u8 9))),none,[]⟩,⟨some 5,.move (.t 15),none,[15]⟩] none [15]) (.cond (.t 5) (.region [⟨some 15,.move (.t 0),none,[0]⟩,⟨some 16,.buildSl 1 (.d (.int .u8 0)) 2 [(0,.c (.d (.int .u8 92))),(1,.c (.d (.int .u8 116)))],none,[]⟩,⟨some 15,.append 1 1 false (.t 15) (.t 16),none,[15]⟩,⟨some 0,.move (.t 15),none,[15]⟩] none [15,16]) (.seq (.region [⟨some 15,.bin .eql .none (.t 14) (.c (.d (.int .u8 10))),none,[]⟩,⟨some 6,.move (.t 15),none,[15]⟩] none [15]) (.cond (.t 6) (.region [⟨some 15,.move (.t 0),none,[0]⟩,⟨some 16,.buildSl 1 (.d (.int .u8 0)) 2 [(0,.c (.d (.int .u8 92))),(1,.c (.d (.int .u8 110)))],none,[]⟩,⟨some 15,.append 1 1 false (.t 15) (.t 16),none,[15]⟩,⟨some 0,.move (.t 15),none,[15]⟩] none [15,16]) (.seq (.region [⟨some 15,.bin .eql .none (.t 14) (.c (.d (.int .u8 12))),none,[]⟩,⟨some 7,.move (.t 15),none,[15]⟩] none [15]) (.cond (.t 7) (.region [⟨some 15,.move (.t 0),none,[0]⟩,⟨some 16,.buildSl 1 (.d (.int .u8 0)) 2 [(0,.c (.d (.int .u8 92))),(1,.c (.d (.int .u8 102)))],none,[]⟩,⟨some 15,.append 1 1 false (.t 15) (.t 16),none,[15]⟩,⟨some 0,.move (.t 15),none,[15]⟩] none [15,16]) (.seq (.region [⟨some 15,.bin .eql .none (.t 14) (.c (.d (.int .u8 13))),none,[]⟩,⟨some 8,.move (.t 15),none,[15]⟩] none [15]) (.cond (.t 8) (.region [⟨some 15,.move (.t 0),none,[0]⟩,⟨some 16,.buildSl 1 (.d (.int .u8 0)) 2 [(0,.c (.d (.int .u8 92))),(1,.c (.d (.int .u8 114)))],none,[]⟩,⟨some 15,.append 1 1 false (.t 15) (.t 16),none,[15]⟩,⟨some 0,.move (.t 15),none,[15]⟩] none [15,16]) (.seq (.region [⟨some 15,.bin .lss .none (.t 14) (.c (.d (.int .u8 32))),none,[]⟩,⟨some 9,.move (.t 15),none,[15]⟩] none [15]) (.cond (.t 9) (.region [⟨some 15,.move (.t 0),none,[0]⟩,⟨some 16,.bin .shr .none (.t 14) (.c (.d (.int .u64 4))),none,[]⟩,⟨some 16,.idxStr (.c (.d (.str [48,49,50,51,52,53,54,55,56,57,97,98,99,100,101,102]))) (.t 16),none,[]⟩,⟨some 17,.bin .and .none (.t 14) (.c (.d (.int .u8 15))),none,[]⟩,⟨some 17,.idxStr (.c (.d (.str [48,49,50,51,52,53,54,55,56,57,97,98,99,100,101,102]))) (.t 17),none,[]⟩,⟨some 16,.buildSl 1 (.d (.int .u8 0)) 6 [(0,.c (.d (.int .u8 92))),(1,.c (.d (.int .u8 117))),(2,.c (.d (.int .u8 48))),(3,.c (.d (.int .u8 48))),(4,.t 16),(5,.t 17)],none,[]⟩,⟨some 15,.append 1 1 false (.t 15) (.t 16),none,[15]⟩,⟨some 0,.move (.t 15),none,[15]⟩] none [15,16,17]) (.region [⟨some 15,.move (.t 0),none,[0]⟩,⟨some 16,.buildSl 1 (.d (.int .u8 0)) 1 [(0,.t 14)],none,[]⟩,⟨some 15,.append 1 1 false (.t 15) (.t 16),none,[15]⟩,⟨some 0,.move (.t 15),none,[15]⟩] none [15,16]))))))))))))))))))) (.region [⟨some 15,.bin .add .none (.t 12) (.c (.d (.int .i64 1))),none,[]⟩,⟨some 12,.move (.t 15),none,[]⟩] none [15]))))))) (.seq (.region [⟨some 15,.move (.t 0),none,[0]⟩,⟨some 16,.buildSl 1 (.d (.int .u8 0)) 1 [(0,.c (.d (.int .u8 34)))],none,[]⟩,⟨some 15,.append 1 1 false (.t 15) (.t 16),none,[15]⟩,⟨some 10,.move (.t 15),none,[15]⟩] none [15,16]) .ret))),[.t 10]⟩
def c48:CFn:=
 ⟨1,13,false,.seq (.region [⟨some 8,.box (.t 0),none,[]⟩,⟨some 7,.move (.c (boolD false)),none,[]⟩] none []) (.seq (.region [⟨some 11,.fieldAddr 3 (.t 8),none,[]⟩,⟨some 11,.load false 1 (.t 11),none,[]⟩,⟨some 11,.len .sl (.t 11),none,[]⟩,⟨some 12,.fieldAddr 4 (.t 8),none,[]⟩,⟨some 12,.load false 1 (.t 12),none,[]⟩,⟨some 12,.len .sl (.t 12),none,[]⟩,⟨some 11,.bin .add .none (.t 11) (.t 12),none,[]⟩,⟨some 11,.bin .eql .none (.t 11) (.c (.d (.int .i64 0))),none,[]⟩,⟨some 9,.move (.t 11),none,[11]⟩] none [11,12]) (.seq (.seq (.region [⟨some 11,.fieldAddr 0 (.t 8),none,[]⟩,⟨some 10,.load false 1 (.t 11),none,[]⟩] none [11]) (.block 0 (.seq (.region [⟨some 11,.bin .eql .none (.t 10) (.c (.d (.int .i64 0))),none,[]⟩,⟨some 1,.move (.t 11),none,[11]⟩] none [11]) (.cond (.t 1) (.seq (.region [⟨some 11,.fieldAddr 1 (.t 8),some (9,true),[]⟩,⟨some 11,.load false 1 (.t 11),some (9,true),[]⟩,⟨some 11,.bin .eql .none (.t 11) (.c (.d (.int .i64 0))),some (9,true),[]⟩,⟨some 11,.pick (.t 9) (.t 11) (.c (boolD false)),none,[]⟩,⟨some 12,.fieldAddr 2 (.t 8),some (11,true),[]⟩,⟨some 12,.load false 1 (.t 12),some (11,true),[]⟩,⟨some 12,.bin .eql .none (.t 12) (.c (.d (.str []))),some (11,true),[]⟩,⟨some 11,.pick (.t 11) (.t 12) (.c (boolD false)),none,[]⟩,⟨some 7,.move (.t 11),none,[11]⟩] none [11,12]) .ret) (.seq (.region [⟨some 11,.bin .eql .none (.t 10) (.c (.d (.int .i64 1))),none,[]⟩,⟨some 2,.move (.t 11),none,[11]⟩] none [11]) (.cond (.t 2) (.seq (.region [⟨some 11,.fieldAddr 1 (.t 8),some (9,true),[]⟩,⟨some 11,.load false 1 (.t 11),some (9,true),[]⟩,⟨some 11,.bin .eql .none (.t 11) (.c (.d (.int .i64 0))),some (9,true),[]⟩,⟨some 11,.move (.t 11),some (9,true),[]⟩,⟨some 12,.fieldAddr 1 (.t 8),some (11,false),[]⟩,⟨some 12,.load false 1 (.t 12),some (11,false),[]⟩,⟨some 12,.bin .eql .none (.t 12) (.c (.d (.int .i64 1))),some (11,false),[]⟩,⟨some 11,.pick (.t 11) (.c (boolD true)) (.t 12),some (9,true),[]⟩,⟨some 11,.pick (.t 9) (.t 11) (.c (boolD false)),none,[]⟩,⟨some 12,.fieldAddr 2 (.t 8),some (11,true),[]⟩,⟨some 12,.load false 1 (.t 12),some (11,true),[]⟩,⟨some 12,.bin .eql .none (.t 12) (.c (.d (.str []))),some (11,true),[]⟩,⟨some 11,.pick (.t 11) (.t 12) (.c (boolD false)),none,[]⟩,⟨some 7,.move (.t 11),none,[11]⟩] none [11,12]) .ret) (.seq (.region [⟨some 11,.bin .eql .none (.t 10) (.c (.d (.int .i64 2))),none,[]⟩,⟨some 3,.move (.t 11),none,[11]⟩] none [11]) (.cond (.t 3) (.seq (.region [⟨some 11,.fieldAddr 1 (.t 8),some (9,true),[]⟩,⟨some 11,.load false 1 (.t 11),some (9,true),[]⟩,⟨some 11,.bin .geq .none (.t 11) (.c (.d (.int .i64 (-9007199254740991)))),some (9,true),[]⟩,⟨some 11,.pick (.t 9) (.t 11) (.c (boolD false)),none,[]⟩,⟨some 12,.fieldAddr 1 (.t 8),some (11,true),[]⟩,⟨some 12,.load false 1 (.t 12),some (11,true),[]⟩,⟨some 12,.bin .leq .none (.t 12) (.c (.d (.int .i64 9007199254740991))),some (11,true),[]⟩,⟨some 11,.pick (.t 11) (.t 12) (.c (boolD false)),none,[]⟩,⟨some 12,.fieldAddr 2 (.t 8),some (11,true),[]⟩,⟨some 12,.load false 1 (.t 12),some (11,true),[]⟩,⟨some 12,.bin .eql .none (.t 12) (.c (.d (.str []))),some (11,true),[]⟩,⟨some 11,.pick (.t 11) (.t 12) (.c (boolD false)),none,[]⟩,⟨some 7,.move (.t 11),none,[11]⟩] none [11,12]) .ret) (.seq (.region [⟨some 11,.bin .eql .none (.t 10) (.c (.d (.int .i64 3))),none,[]⟩,⟨some 4,.move (.t 11),none,[11]⟩] none [11]) (.cond (.t 4) (.seq (.region [⟨some 11,.fieldAddr 1 (.t 8),some (9,true),[]⟩,⟨some 11,.load false 1 (.t 11),some (9,true),[]⟩,⟨some 11,.bin .eql .none (.t 11) (.c (.d (.int .i64 0))),some (9,true),[]⟩,⟨some 11,.pick (.t 9) (.t 11) (.c (boolD false)),none,[]⟩,⟨some 12,.fieldAddr 2 (.t 8),some (11,true),[]⟩,⟨some 12,.load false 1 (.t 12),some (11,true),[]⟩,⟨some 12,.call 18 [.t 12],some (11,true),[]⟩,⟨some 12,.bin .lss .none (.t 12) (.c (.d (.int .i64 0))),some (11,true),[]⟩,⟨some 11,.pick (.t 11) (.t 12) (.c (boolD false)),none,[]⟩,⟨some 7,.move (.t 11),none,[11]⟩] none [11,12]) .ret) (.seq (.region [⟨some 11,.bin .eql .none (.t 10) (.c (.d (.int .i64 4))),none,[]⟩,⟨some 5,.move (.t 11),none,[11]⟩] none [11]) (.cond (.t 5) (.seq (.region [⟨some 11,.fieldAddr 3 (.t 8),none,[]⟩,⟨some 11,.load false 1 (.t 11),none,[]⟩,⟨some 11,.len .sl (.t 11),none,[]⟩,⟨some 11,.bin .eql .none (.t 11) (.c (.d (.int .i64 0))),none,[]⟩,⟨some 12,.fieldAddr 1 (.t 8),some (11,true),[]⟩,⟨some 12,.load false 1 (.t 12),some (11,true),[]⟩,⟨some 12,.bin .eql .none (.t 12) (.c (.d (.int .i64 0))),some (11,true),[]⟩,⟨some 11,.pick (.t 11) (.t 12) (.c (boolD false)),none,[]⟩,⟨some 12,.fieldAddr 2 (.t 8),some (11,true),[]⟩,⟨some 12,.load false 1 (.t 12),some (11,true),[]⟩,⟨some 12,.bin .eql .none (.t 12) (.c (.d (.str []))),some (11,true),[]⟩,⟨some 11,.pick (.t 11) (.t 12) (.c (boolD false)),none,[]⟩,⟨some 7,.move (.t 11),none,[11]⟩] none [11,12]) .ret) (.seq (.region [⟨some 11,.bin .eql .none (.t 10) (.c (.d (.int .i64 5))),none,[]⟩,⟨some 6,.move (.t 11),none,[11]⟩] none [11]) (.cond (.t 6) (.seq (.region [⟨some 11,.fieldAddr 3 (.t 8),none,[]⟩,⟨some 11,.load false 1 (.t 11),none,[]⟩,⟨some 11,.len .sl (.t 11),none,[]⟩,⟨some 12,.fieldAddr 4 (.t 8),none,[]⟩,⟨some 12,.load false 1 (.t 12),none,[]⟩,⟨some 12,.len .sl (.t 12),none,[]⟩,⟨some 11,.bin .eql .none (.t 11) (.t 12),none,[]⟩,⟨some 12,.fieldAddr 1 (.t 8),some (11,true),[]⟩,⟨some 12,.load false 1 (.t 12),some (11,true),[]⟩,⟨some 12,.bin .eql .none (.t 12) (.c (.d (.int .i64 0))),some (11,true),[]⟩,⟨some 11,.pick (.t 11) (.t 12) (.c (boolD false)),none,[]⟩,⟨some 12,.fieldAddr 2 (.t 8),some (11,true),[]⟩,⟨some 12,.load false 1 (.t 12),some (11,true),[]⟩,⟨some 12,.bin .eql .none (.t 12) (.c (.d (.str []))),some (11,true),[]⟩,⟨some 11,.pick (.t 11) (.t 12) (.c (boolD false)),none,[]⟩,⟨some 12,.fieldAddr 3 (.t 8),some (11,true),[]⟩,⟨some 12,.load false 1 (.t 12),some (11,true),[]⟩,⟨some 12,.call 66 [.t 12],some (11,true),[]⟩,⟨some 11,.pick (.t 11) (.t 12) (.c (boolD false)),none,[]⟩,⟨some 7,.move (.t 11),none,[11]⟩] none [11,12]) .ret) .skip)))))))))))))) (.seq (.region [⟨some 7,.move (.c (boolD false)),none,[]⟩] none []) .ret))),[.t 7]⟩
def c49:CFn:=
 ⟨1,5,false,.seq (.region [⟨some 1,.move (.c (boolD false)),none,[]⟩] none []) (.seq (.region [⟨some 2,.bin .geq .none (.t 0) (.c (.d (.int .i64 0))),none,[]⟩,⟨some 3,.move (.t 0),some (2,true),[]⟩,⟨some 3,.bin .leq .none (.t 3) (.c (.d (.int .i64 1114111))),some (2,true),[]⟩,⟨some 2,.pick (.t 2) (.t 3) (.c (boolD false)),none,[]⟩,⟨some 3,.move (.t 0),some (2,true),[]⟩,⟨some 3,.bin .lss .none (.t 3) (.c (.d (.int .i64 55296))),some (2,true),[]⟩,⟨some 3,.move (.t 3),some (2,true),[]⟩,⟨some 4,.move (.t 0),some (3,false),[]⟩,⟨some 4,.bin .gtr .none (.t 4) (.c (.d (.int .i64 57343))),some (3,false),[]⟩,⟨some 3,.pick (.t 3) (.c (boolD true)) (.t 4),some (2,true),[]⟩,⟨some 2,.pick (.t 2) (.t 3) (.c (boolD false)),none,[]⟩,⟨some 1,.move (.t 2),none,[2]⟩] none [2,3,4]) .ret),[.t 1]⟩
def c50:CFn:=
 ⟨1,7,false,.seq (.region [⟨some 3,.move (.c (.d (.str []))),none,[]⟩] none []) (.seq (.region [⟨some 1,.bin .lss .none (.t 0) (.c (.d (.int .i64 0))),none,[]⟩] none []) (.cond (.t 1) (.seq (.region [⟨some 5,.un .neg (.t 0),none,[]⟩,⟨some 5,.call 50 [.t 5],none,[]⟩,⟨some 5,.bin .add .none (.c (.d (.str [45]))) (.t 5),none,[]⟩,⟨some 3,.move (.t 5),none,[5]⟩] none [5]) .ret) (.seq .skip (.seq (.region [⟨some 4,.move (.c (.d (.str []))),none,[]⟩] none []) (.seq (.block 0 (.loop (.seq (.seq (.region [⟨some 5,.bin .eql .none (.t 4) (.c (.d (.str []))),none,[]⟩,⟨some 6,.move (.t 0),some (5,false),[]⟩,⟨some 6,.bin .gtr .none (.t 6) (.c (.d (.int .i64 0))),some (5,false),[]⟩,⟨some 2,.pick (.t 5) (.c (boolD true)) (.t 6),none,[]⟩] none [5,6]) (.cond (.t 2) .skip (.exit 0))) (.block 1 (.seq (.region [⟨some 5,.bin .rem .none (.t 0) (.c (.d (.int .i64 10))),none,[]⟩,⟨some 5,.bin .add .none (.c (.d (.int .i64 48))) (.t 5),none,[]⟩,⟨some 5,.toInt .u8 (.t 5),none,[]⟩,⟨some 5,.buildSl 1 (.d (.int .u8 0)) 1 [(0,.t 5)],none,[]⟩,⟨some 5,.toStr (.t 5),none,[]⟩,⟨some 6,.move (.t 4),none,[]⟩,⟨some 5,.bin .add .none (.t 5) (.t 6),none,[]⟩,⟨some 4,.move (.t 5),none,[5]⟩] none [5,6]) (.region [⟨some 5,.move (.t 0),none,[]⟩,⟨some 5,.bin .quo .none (.t 5) (.c (.d (.int .i64 10))),none,[]⟩,⟨some 0,.move (.t 5),none,[5]⟩] none [5])))))) (.seq (.region [⟨some 5,.move (.t 4),none,[4]⟩,⟨some 3,.move (.t 5),none,[5]⟩] none [5]) .ret)))))),[.t 3]⟩
def c51:CFn:=
 ⟨1,16,false,.seq (.region [⟨some 9,.move (.c (.d (.str []))),none,[]⟩] none []) (.seq (.region [⟨some 10,.move (.c (.d (.str [34]))),none,[]⟩] none []) (.seq (.seq (.region [⟨some 11,.move (.c (.d (.int .i64 0))),none,[]⟩] none []) (.block 0 (.loop (.seq (.seq (.region [⟨some 13,.len .str (.t 0),none,[]⟩,⟨some 1,.bin .lss .none (.t 11) (.t 13),none,[]⟩] none [13]) (.cond (.t 1) .skip (.exit 0))) (.seq (.block 1 (.seq (.region [⟨some 13,.idxStr (.t 0) (.t 11),none,[]⟩,⟨some 12,.move (.t 13),none,[13]⟩] none [13]) (.block 2 (.seq (.region [⟨some 13,.bin .eql .none (.t 12) (.c (.d (.int .u8 34))),none,[]⟩,⟨some 14,.move (.t 12),some (13,false),[]⟩,⟨some 14,.bin .eql .none (.t 14) (.c (.d (.int .u8 92))),some (13,false),[]⟩,⟨some 13,.pick (.t 13) (.c (boolD true)) (.t 14),none,[]⟩,⟨some 2,.move (.t 13),none,[13]⟩] none [13,14]) (.cond (.t 2) (.region [⟨some 13,.move (.t 10),none,[]⟩,⟨some 13,.bin .add .none (.t 13) (.c (.d (.str [92]))),none,[]⟩,⟨some 14,.bin .add .none (.t 11) (.c (.d (.int .i64 1))),none,[]⟩,⟨some 14,.slStr (.t 0) (some (.t 11)) (some (.t 14)),none,[]⟩,⟨some 13,.bin .add .none (.t 13) (.t 14),none,[]⟩,⟨some 10,.move (.t 13),none,[13]⟩] none [13,14]) (.seq (.region [⟨some 13,.bin .eql .none (.t 12) (.c (.d (.int .u8 8))),none,[]⟩,⟨some 3,.move (.t 13),none,[13]⟩] none [13]) (.cond (.t 3) (.region [⟨some 13,.move (.t 10),none,[]⟩,⟨some 13,.bin .add .none (.t 13) (.c (.d (.str [92,98]))),none,[]⟩,⟨some 10,.move (.t 13),none,[13]⟩] none [13]) (.seq (.region [⟨some 13,.bin .eql .none (.t 12) (.c (.d (.int .u8 9))),none,[]⟩,⟨some 4,.move (.t 13),none,[13]⟩] none [13]) (.cond (.t 4) (.region [⟨some 13,.move (.t 10),none,[]⟩,⟨some 13,.bin .add .none (.t 13) (.c (.d (.str [92,116]))),none,[]⟩,⟨some 10,.move (.t 13),none,[13]⟩] none [13]) (.seq (.region [⟨some 13,.bin .eql .none (.t 12) (.c (.d (.int .u8 10))),none,[]⟩,⟨some 5,.move (.t 13),none,[13]⟩] none [13]) (.cond (.t 5) (.region [⟨some 13,.move (.t 10),none,[]⟩,⟨some 13,.bin .add .none (.t 13) (.c (.d (.str [92,110]))),none,[]⟩,⟨some 10,.move (.t 13),none,[13]⟩] none [13]) (.seq (.region [⟨some 13,.bin .eql .none (.t 12) (.c (.d (.int .u8 12))),none,[]⟩,⟨some 6,.move (.t 13),none,[13]⟩] none [13]) (.cond (.t 6) (.region [⟨some 13,.move (.t 10),none,[]⟩,⟨some 13,.bin .add .none (.t 13) (.c (.d (.str [92,102]))),none,[]⟩,⟨some 10,.move (.t 13),none,[13]⟩] none [13]) (.seq (.region [⟨some 13,.bin .eql .none (.t 12) (.c (.d (.int .u8 13))),none,[]⟩,⟨some 7,.move (.t 13),none,[13]⟩] none [13]) (.cond (.t 7) (.region [⟨some 13,.move (.t 10),none,[]⟩,⟨some 13,.bin .add .none (.t 13) (.c (.d (.str [92,114]))),none,[]⟩,⟨some 10,.move (.t 13),none,[13]⟩] none [13]) (.seq (.region [⟨some 13,.bin .lss .none (.t 12) (.c (.d (.int .u8 32))),none,[]⟩,⟨some 8,.move (.t 13),none,[13]⟩] none [13]) (.cond (.t 8) (.region [⟨some 13,.move (.t 10),none,[]⟩,⟨some 13,.bin .add .none (.t 13) (.c (.d (.str [92,117,48,48]))),none,[]⟩,⟨some 14,.bin .quo .none (.t 12) (.c (.d (.int .u8 16))),none,[]⟩,⟨some 15,.bin .quo .none (.t 12) (.c (.d (.int .u8 16))),none,[]⟩,⟨some 15,.bin .add .none (.t 15) (.c (.d (.int .u8 1))),none,[]⟩,⟨some 14,.slStr (.c (.d (.str [48,49,50,51,52,53,54,55,56,57,97,98,99,100,101,102]))) (some (.t 14)) (some (.t 15)),none,[]⟩,⟨some 13,.bin .add .none (.t 13) (.t 14),none,[]⟩,⟨some 14,.bin .rem .none (.t 12) (.c (.d (.int .u8 16))),none,[]⟩,⟨some 15,.bin .rem .none (.t 12) (.c (.d (.int .u8 16))),none,[]⟩,⟨some 15,.bin .add .none (.t 15) (.c (.d (.int .u8 1))),none,[]⟩,⟨some 14,.slStr (.c (.d (.str [48,49,50,51,52,53,54,55,56,57,97,98,99,100,101,102]))) (some (.t 14)) (some (.t 15)),none,[]⟩,⟨some 13,.bin .add .none (.t 13) (.t 14),none,[]⟩,⟨some 10,.move (.t 13),none,[13]⟩] none [13,14,15]) (.region [⟨some 13,.move (.t 10),none,[]⟩,⟨some 14,.bin .add .none (.t 11) (.c (.d (.int .i64 1))),none,[]⟩,⟨some 14,.slStr (.t 0) (some (.t 11)) (some (.t 14)),none,[]⟩,⟨some 13,.bin .add .none (.t 13) (.t 14),none,[]⟩,⟨some 10,.move (.t 13),none,[13]⟩] none [13,14])))))))))))))))))) (.region [⟨some 13,.move (.t 11),none,[]⟩,⟨some 13,.bin .add .none (.t 13) (.c (.d (.int .i64 1))),none,[]⟩,⟨some 11,.move (.t 13),none,[13]⟩] none [13])))))) (.seq (.region [⟨some 13,.bin .add .none (.t 10) (.c (.d (.str [34]))),none,[]⟩,⟨some 9,.move (.t 13),none,[13]⟩] none [13]) .ret))),[.t 9]⟩
def c52:CFn:=
 ⟨1,14,false,.seq (.region [⟨some 8,.box (.t 0),none,[]⟩,⟨some 7,.move (.c (boolD false)),none,[]⟩] none []) (.seq (.region [⟨some 11,.fieldAddr 3 (.t 8),none,[]⟩,⟨some 11,.load false 1 (.t 11),none,[]⟩,⟨some 11,.len .sl (.t 11),none,[]⟩,⟨some 12,.fieldAddr 4 (.t 8),none,[]⟩,⟨some 12,.load false 1 (.t 12),none,[]⟩,⟨some 12,.len .sl (.t 12),none,[]⟩,⟨some 11,.bin .add .none (.t 11) (.t 12),none,[]⟩,⟨some 11,.bin .eql .none (.t 11) (.c (.d (.int .i64 0))),none,[]⟩,⟨some 9,.move (.t 11),none,[11]⟩] none [11,12]) (.seq (.seq (.region [⟨some 11,.fieldAddr 0 (.t 8),none,[]⟩,⟨some 10,.load false 1 (.t 11),none,[]⟩] none [11]) (.block 0 (.seq (.region [⟨some 11,.bin .eql .none (.t 10) (.c (.d (.int .i64 0))),none,[]⟩,⟨some 1,.move (.t 11),none,[11]⟩] none [11]) (.cond (.t 1) (.seq (.region [⟨some 11,.fieldAddr 1 (.t 8),some (9,true),[]⟩,⟨some 11,.load false 1 (.t 11),some (9,true),[]⟩,⟨some 11,.bin .eql .none (.t 11) (.c (.d (.int .i64 0))),some (9,true),[]⟩,⟨some 11,.pick (.t 9) (.t 11) (.c (boolD false)),none,[]⟩,⟨some 12,.fieldAddr 2 (.t 8),some (11,true),[]⟩,⟨some 12,.load false 1 (.t 12),some (11,true),[]⟩,⟨some 12,.bin .eql .none (.t 12) (.c (.d (.str []))),some (11,true),[]⟩,⟨some 11,.pick (.t 11) (.t 12) (.c (boolD false)),none,[]⟩,⟨some 7,.move (.t 11),none,[11]⟩] none [11,12]) .ret) (.seq (.region [⟨some 11,.bin .eql .none (.t 10) (.c (.d (.int .i64 1))),none,[]⟩,⟨some 2,.move (.t 11),none,[11]⟩] none [11]) (.cond (.t 2) (.seq (.region [⟨some 11,.fieldAddr 2 (.t 8),some (9,true),[]⟩,⟨some 11,.load false 1 (.t 11),some (9,true),[]⟩,⟨some 11,.bin .eql .none (.t 11) (.c (.d (.str []))),some (9,true),[]⟩,⟨some 11,.pick (.t 9) (.t 11) (.c (boolD false)),none,[]⟩,⟨some 12,.fieldAddr 1 (.t 8),some (11,true),[]⟩,⟨some 12,.load false 1 (.t 12),some (11,true),[]⟩,⟨some 12,.bin .eql .none (.t 12) (.c (.d (.int .i64 0))),some (11,true),[]⟩,⟨some 12,.move (.t 12),some (11,true),[]⟩,⟨some 13,.fieldAddr 1 (.t 8),some (12,false),[]⟩,⟨some 13,.load false 1 (.t 13),some (12,false),[]⟩,⟨some 13,.bin .eql .none (.t 13) (.c (.d (.int .i64 1))),some (12,false),[]⟩,⟨some 12,.pick (.t 12) (.c (boolD true)) (.t 13),some (11,true),[]⟩,⟨some 11,.pick (.t 11) (.t 12) (.c (boolD false)),none,[]⟩,⟨some 7,.move (.t 11),none,[11]⟩] none [11,12,13]) .ret) (.seq (.region [⟨some 11,.bin .eql .none (.t 10) (.c (.d (.int .i64 2))),none,[]⟩,⟨some 3,.move (.t 11),none,[11]⟩] none [11]) (.cond (.t 3) (.seq (.region [⟨some 11,.fieldAddr 2 (.t 8),some (9,true),[]⟩,⟨some 11,.load false 1 (.t 11),some (9,true),[]⟩,⟨some 11,.bin .eql .none (.t 11) (.c (.d (.str []))),some (9,true),[]⟩,⟨some 11,.pick (.t 9) (.t 11) (.c (boolD false)),none,[]⟩,⟨some 12,.fieldAddr 1 (.t 8),some (11,true),[]⟩,⟨some 12,.load false 1 (.t 12),some (11,true),[]⟩,⟨some 12,.bin .leq .none (.c (.d (.int .i64 (-9007199254740991)))) (.t 12),some (11,true),[]⟩,⟨some 11,.pick (.t 11) (.t 12) (.c (boolD false)),none,[]⟩,⟨some 12,.fieldAddr 1 (.t 8),some (11,true),[]⟩,⟨some 12,.load false 1 (.t 12),some (11,true),[]⟩,⟨some 12,.bin .leq .none (.t 12) (.c (.d (.int .i64 9007199254740991))),some (11,true),[]⟩,⟨some 11,.pick (.t 11) (.t 12) (.c (boolD false)),none,[]⟩,⟨some 7,.move (.t 11),none,[11]⟩] none [11,12]) .ret) (.seq (.region [⟨some 11,.bin .eql .none (.t 10) (.c (.d (.int .i64 3))),none,[]⟩,⟨some 4,.move (.t 11),none,[11]⟩] none [11]) (.cond (.t 4) (.seq (.region [⟨some 11,.fieldAddr 1 (.t 8),some (9,true),[]⟩,⟨some 11,.load false 1 (.t 11),some (9,true),[]⟩,⟨some 11,.bin .eql .none (.t 11) (.c (.d (.int .i64 0))),some (9,true),[]⟩,⟨some 11,.pick (.t 9) (.t 11) (.c (boolD false)),none,[]⟩,⟨some 12,.fieldAddr 2 (.t 8),some (11,true),[]⟩,⟨some 12,.load false 1 (.t 12),some (11,true),[]⟩,⟨some 12,.call 67 [.t 12],some (11,true),[]⟩,⟨some 11,.pick (.t 11) (.t 12) (.c (boolD false)),none,[]⟩,⟨some 7,.move (.t 11),none,[11]⟩] none [11,12]) .ret) (.seq (.region [⟨some 11,.bin .eql .none (.t 10) (.c (.d (.int .i64 4))),none,[]⟩,⟨some 5,.move (.t 11),none,[11]⟩] none [11]) (.cond (.t 5) (.seq (.region [⟨some 11,.fieldAddr 3 (.t 8),none,[]⟩,⟨some 11,.load false 1 (.t 11),none,[]⟩,⟨some 11,.len .sl (.t 11),none,[]⟩,⟨some 11,.bin .eql .none (.t 11) (.c (.d (.int .i64 0))),none,[]⟩,⟨some 12,.fieldAddr 1 (.t 8),some (11,true),[]⟩,⟨some 12,.load false 1 (.t 12),some (11,true),[]⟩,⟨some 12,.bin .eql .none (.t 12) (.c (.d (.int .i64 0))),some (11,true),[]⟩,⟨some 11,.pick (.t 11) (.t 12) (.c (boolD false)),none,[]⟩,⟨some 12,.fieldAddr 2 (.t 8),some (11,true),[]⟩,⟨some 12,.load false 1 (.t 12),some (11,true),[]⟩,⟨some 12,.bin .eql .none (.t 12) (.c (.d (.str []))),some (11,true),[]⟩,⟨some 11,.pick (.t 11) (.t 12) (.c (boolD false)),none,[]⟩,⟨some 7,.move (.t 11),none,[11]⟩] none [11,12]) .ret) (.seq (.region [⟨some 11,.bin .eql .none (.t 10) (.c (.d (.int .i64 5))),none,[]⟩,⟨some 6,.move (.t 11),none,[11]⟩] none [11]) (.cond (.t 6) (.seq (.region [⟨some 11,.fieldAddr 3 (.t 8),none,[]⟩,⟨some 11,.load false 1 (.t 11),none,[]⟩,⟨some 11,.len .sl (.t 11),none,[]⟩,⟨some 12,.fieldAddr 4 (.t 8),none,[]⟩,⟨some 12,.load false 1 (.t 12),none,[]⟩,⟨some 12,.len .sl (.t 12),none,[]⟩,⟨some 11,.bin .eql .none (.t 11) (.t 12),none,[]⟩,⟨some 12,.fieldAddr 1 (.t 8),some (11,true),[]⟩,⟨some 12,.load false 1 (.t 12),some (11,true),[]⟩,⟨some 12,.bin .eql .none (.t 12) (.c (.d (.int .i64 0))),some (11,true),[]⟩,⟨some 11,.pick (.t 11) (.t 12) (.c (boolD false)),none,[]⟩,⟨some 12,.fieldAddr 2 (.t 8),some (11,true),[]⟩,⟨some 12,.load false 1 (.t 12),some (11,true),[]⟩,⟨some 12,.bin .eql .none (.t 12) (.c (.d (.str []))),some (11,true),[]⟩,⟨some 11,.pick (.t 11) (.t 12) (.c (boolD false)),none,[]⟩,⟨some 12,.fieldAddr 3 (.t 8),some (11,true),[]⟩,⟨some 12,.load false 1 (.t 12),some (11,true),[]⟩,⟨some 12,.call 68 [.t 12],some (11,true),[]⟩,⟨some 11,.pick (.t 11) (.t 12) (.c (boolD false)),none,[]⟩,⟨some 7,.move (.t 11),none,[11]⟩] none [11,12]) .ret) .skip)))))))))))))) (.seq (.region [⟨some 7,.move (.c (boolD false)),none,[]⟩] none []) .ret))),[.t 7]⟩
def c53:CFn:=
 ⟨2,4,false,.seq (.region [⟨some 2,.move (.c (boolD false)),none,[]⟩] none []) (.seq (.region [⟨some 3,.call 69 [.t 0,.t 1],none,[]⟩,⟨some 3,.bin .geq .none (.t 3) (.c (.d (.int .i64 0))),none,[]⟩,⟨some 2,.move (.t 3),none,[3]⟩] none [3]) .ret),[.t 2]⟩
def c54:CFn:=
 ⟨2,6,false,.seq (.region [⟨some 3,.box (.t 0),none,[]⟩,⟨some 2,.move (.c (boolD false)),none,[]⟩] none []) (.seq (.region [⟨some 4,.load true 5 (.t 3),none,[]⟩,⟨some 5,.load false 1 (.t 1),none,[]⟩,⟨some 5,.bin .sub .none (.t 5) (.c (.d (.int .i64 1))),none,[]⟩,⟨some 4,.call 34 [.t 4,.t 5],none,[]⟩,⟨some 4,.un .not (.t 4),none,[]⟩,⟨some 2,.move (.t 4),none,[4]⟩] none [4,5]) .ret),[.t 2]⟩
def c56:CFn:=
 ⟨2,4,false,.seq (.region [⟨some 2,.move (.c (.d (.int .i64 0))),none,[]⟩] none []) (.seq (.region [⟨some 3,.call 70 [.t 0,.t 1],none,[]⟩,⟨some 2,.move (.t 3),none,[3]⟩] none [3]) .ret),[.t 2]⟩
def c57:CFn:=
 ⟨2,6,true,.seq (.seq (.region [⟨some 3,.nilCheck (.t 0),none,[]⟩,⟨some 3,.fieldAddr 1 (.t 3),none,[]⟩,⟨some 3,.load false 1 (.t 3),none,[]⟩,⟨some 4,.nilCheck (.t 0),none,[]⟩,⟨some 4,.fieldAddr 0 (.t 4),none,[]⟩,⟨some 4,.load false 1 (.t 4),none,[]⟩,⟨some 4,.len .str (.t 4),none,[]⟩,⟨some 3,.bin .eql .none (.t 3) (.t 4),none,[]⟩,⟨some 4,.move (.t 0),some (3,false),[]⟩,⟨some 4,.nilCheck (.t 4),some (3,false),[]⟩,⟨some 4,.fieldAddr 0 (.t 4),some (3,false),[]⟩,⟨some 4,.load false 1 (.t 4),some (3,false),[]⟩,⟨some 5,.move (.t 0),some (3,false),[]⟩,⟨some 5,.nilCheck (.t 5),some (3,false),[]⟩,⟨some 5,.fieldAddr 1 (.t 5),some (3,false),[]⟩,⟨some 5,.load false 1 (.t 5),some (3,false),[]⟩,⟨some 4,.idxStr (.t 4) (.t 5),some (3,false),[]⟩,⟨some 5,.move (.t 1),some (3,false),[]⟩,⟨some 4,.bin .neq .none (.t 4) (.t 5),some (3,false),[]⟩,⟨some 2,.pick (.t 3) (.c (boolD true)) (.t 4),none,[]⟩] none [3,4,5]) (.cond (.t 2) (.region [⟨some 3,.nilCheck (.t 0),none,[]⟩,⟨some 3,.fieldAddr 1 (.t 3),none,[]⟩,⟨some 3,.load false 1 (.t 3),none,[]⟩,⟨some 3,.call 26 [.t 0,.c (.d (.int .i64 11)),.t 3],none,[]⟩] none [3]) .skip)) (.region [⟨some 3,.nilCheck (.t 0),none,[]⟩,⟨some 3,.fieldAddr 1 (.t 3),none,[]⟩,⟨some 3,.load false 1 (.t 3),none,[]⟩,⟨some 3,.bin .add .none (.t 3) (.c (.d (.int .i64 1))),none,[]⟩,⟨some 4,.nilCheck (.t 0),none,[]⟩,⟨some 4,.fieldAddr 1 (.t 4),none,[]⟩,⟨none,.store 1 (.t 4) (.t 3),none,[3]⟩] none [3,4]),[]⟩
def c59:CFn:=
 ⟨2,7,true,.seq (.region [⟨some 2,.move (.c (.d (.int .i64 0))),none,[]⟩,⟨some 3,.move (.c .niliface),none,[]⟩] none []) (.seq (.region [⟨some 5,.call 71 [.t 0],none,[]⟩] none [5]) (.seq (.region [⟨some 5,.nilCheck (.t 0),none,[]⟩,⟨some 5,.fieldAddr 1 (.t 5),none,[]⟩,⟨some 5,.load false 1 (.t 5),none,[]⟩,⟨some 5,.len .sl (.t 5),none,[]⟩,⟨some 4,.move (.t 5),none,[5]⟩] none [5]) (.seq (.region [⟨some 5,.nilCheck (.t 0),none,[]⟩,⟨some 5,.fieldAddr 1 (.t 5),none,[]⟩,⟨some 5,.loadTake (.t 5),none,[]⟩,⟨some 5,.call 72 [.t 5,.t 1],none,[5]⟩,⟨some 6,.nilCheck (.t 0),none,[]⟩,⟨some 6,.fieldAddr 1 (.t 6),none,[]⟩,⟨none,.store 1 (.t 6) (.t 5),none,[5]⟩] none [5,6]) (.seq (.region [⟨some 5,.nilCheck (.t 0),none,[]⟩,⟨some 5,.fieldAddr 1 (.t 5),none,[]⟩,⟨some 5,.load false 1 (.t 5),none,[]⟩,⟨some 5,.len .sl (.t 5),none,[]⟩,⟨some 5,.bin .sub .none (.t 5) (.t 4),none,[]⟩,⟨some 2,.move (.t 5),none,[5]⟩,⟨some 3,.move (.c .niliface),none,[]⟩] none [5]) .ret)))),[.t 2,.t 3]⟩
def c60:CFn:=
 ⟨1,21,true,.seq (.region [⟨some 11,.move (.c (.d (.int .i32 0))),none,[]⟩] none []) (.seq (.region [⟨some 18,.nilCheck (.t 0),none,[]⟩,⟨some 18,.fieldAddr 1 (.t 18),none,[]⟩,⟨some 18,.load false 1 (.t 18),none,[]⟩,⟨some 18,.bin .sub .none (.t 18) (.c (.d (.int .i64 1))),none,[]⟩,⟨some 12,.move (.t 18),none,[18]⟩] none [18]) (.seq (.region [⟨some 18,.call 37 [.t 0],none,[]⟩,⟨some 13,.move (.t 18),none,[18]⟩] none [18]) (.seq (.seq (.region [⟨some 18,.call 36 [.c (.d (.str [34,92,47,98,102,110,114,116,117])),.t 13],none,[]⟩,⟨some 14,.move (.t 18),none,[18]⟩] none [18]) (.seq (.region [⟨some 18,.nilCheck (.t 0),none,[]⟩,⟨some 18,.fieldAddr 1 (.t 18),none,[]⟩,⟨some 18,.load false 1 (.t 18),none,[]⟩,⟨some 19,.nilCheck (.t 0),none,[]⟩,⟨some 19,.fieldAddr 0 (.t 19),none,[]⟩,⟨some 19,.load false 1 (.t 19),none,[]⟩,⟨some 19,.len .str (.t 19),none,[]⟩,⟨some 18,.bin .eql .none (.t 18) (.t 19),none,[]⟩,⟨some 19,.move (.t 14),some (18,false),[]⟩,⟨some 19,.bin .lss .none (.t 19) (.c (.d (.int .i64 0))),some (18,false),[]⟩,⟨some 1,.pick (.t 18) (.c (boolD true)) (.t 19),none,[]⟩] none [18,19]) (.cond (.t 1) (.region [⟨some 18,.nilCheck (.t 0),none,[]⟩,⟨some 18,.fieldAddr 1 (.t 18),none,[]⟩,⟨some 18,.load false 1 (.t 18),none,[]⟩,⟨some 18,.call 26 [.t 0,.c (.d (.int .i64 11)),.t 18],none,[]⟩] none [18]) .skip))) (.seq (.region [⟨some 18,.nilCheck (.t 0),none,[]⟩,⟨some 18,.fieldAddr 1 (.t 18),none,[]⟩,⟨some 18,.load false 1 (.t 18),none,[]⟩,⟨some 18,.bin .add .none (.t 18) (.c (.d (.int .i64 1))),none,[]⟩,⟨some 19,.nilCheck (.t 0),none,[]⟩,⟨some 19,.fieldAddr 1 (.t 19),none,[]⟩,⟨none,.store 1 (.t 19) (.t 18),none,[18]⟩] none [18,19]) (.seq (.seq (.region [⟨some 15,.move (.t 13),none,[]⟩] none []) (.block 0 (.seq (.region [⟨some 18,.bin .eql .none (.t 15) (.c (.d (.int .u8 98))),none,[]⟩,⟨some 2,.move (.t 18),none,[18]⟩] none [18]) (.cond (.t 2) (.seq (.region [⟨some 11,.move (.c (.d (.int .i32 8))),none,[]⟩] none []) .ret) (.seq (.region [⟨some 18,.bin .eql .none (.t 15) (.c (.d (.int .u8 102))),none,[]⟩,⟨some 3,.move (.t 18),none,[18]⟩] none [18]) (.cond (.t 3) (.seq (.region [⟨some 11,.move (.c (.d (.int .i32 12))),none,[]⟩] none []) .ret) (.seq (.region [⟨some 18,.bin .eql .none (.t 15) (.c (.d (.int .u8 110))),none,[]⟩,⟨some 4,.move (.t 18),none,[18]⟩] none [18]) (.cond (.t 4) (.seq (.region [⟨some 11,.move (.c (.d (.int .i32 10))),none,[]⟩] none []) .ret) (.seq (.region [⟨some 18,.bin .eql .none (.t 15) (.c (.d (.int .u8 114))),none,[]⟩,⟨some 5,.move (.t 18),none,[18]⟩] none [18]) (.cond (.t 5) (.seq (.region [⟨some 11,.move (.c (.d (.int .i32 13))),none,[]⟩] none []) .ret) (.seq (.region [⟨some 18,.bin .eql .none (.t 15) (.c (.d (.int .u8 116))),none,[]⟩,⟨some 6,.move (.t 18),none,[18]⟩] none [18]) (.cond (.t 6) (.seq (.region [⟨some 11,.move (.c (.d (.int .i32 9))),none,[]⟩] none []) .ret) (.seq (.region [⟨some 18,.bin .eql .none (.t 15) (.c (.d (.int .u8 117))),none,[]⟩,⟨some 7,.move (.t 18),none,[18]⟩] none [18]) (.cond (.t 7) (.seq (.region [⟨some 18,.call 73 [.t 0],none,[]⟩,⟨some 16,.move (.t 18),none,[18]⟩] none [18]) (.seq (.region [⟨some 18,.bin .lss .none (.t 16) (.c (.d (.int .i32 55296))),none,[]⟩,⟨some 19,.move (.t 16),some (18,false),[]⟩,⟨some 19,.bin .gtr .none (.t 19) (.c (.d (.int .i32 57343))),some (18,false),[]⟩,⟨some 8,.pick (.t 18) (.c (boolD true)) (.t 19),none,[]⟩] none [18,19]) (.cond (.t 8) (.seq (.region [⟨some 18,.move (.t 16),none,[16]⟩,⟨some 11,.move (.t 18),none,[18]⟩] none [18]) .ret) (.seq .skip (.seq (.seq (.region [⟨some 18,.bin .geq .none (.t 16) (.c (.d (.int .i32 56320))),none,[]⟩,⟨some 19,.move (.t 0),some (18,false),[]⟩,⟨some 19,.nilCheck (.t 19),some (18,false),[]⟩,⟨some 19,.fieldAddr 0 (.t 19),some (18,false),[]⟩,⟨some 19,.load false 1 (.t 19),some (18,false),[]⟩,⟨some 20,.move (.t 0),some (18,false),[]⟩,⟨some 20,.nilCheck (.t 20),some (18,false),[]⟩,⟨some 20,.fieldAddr 1 (.t 20),some (18,false),[]⟩,⟨some 20,.load false 1 (.t 20),some (18,false),[]⟩,⟨some 19,.slStr (.t 19) (some (.t 20)) none,some (18,false),[]⟩,⟨some 19,.call 74 [.t 19,.c (.d (.str [92,117]))],some (18,false),[]⟩,⟨some 19,.un .not (.t 19),some (18,false),[]⟩,⟨some 9,.pick (.t 18) (.c (boolD true)) (.t 19),none,[]⟩] none [18,19,20]) (.cond (.t 9) (.region [⟨some 18,.call 26 [.t 0,.c (.d (.int .i64 11)),.t 12],none,[]⟩] none [18]) .skip)) (.seq (.region [⟨some 18,.nilCheck (.t 0),none,[]⟩,⟨some 18,.fieldAddr 1 (.t 18),none,[]⟩,⟨some 18,.load false 1 (.t 18),none,[]⟩,⟨some 18,.bin .add .none (.t 18) (.c (.d (.int .i64 2))),none,[]⟩,⟨some 19,.nilCheck (.t 0),none,[]⟩,⟨some 19,.fieldAddr 1 (.t 19),none,[]⟩,⟨none,.store 1 (.t 19) (.t 18),none,[18]⟩] none [18,19]) (.seq (.region [⟨some 18,.call 73 [.t 0],none,[]⟩,⟨some 17,.move (.t 18),none,[18]⟩] none [18]) (.seq (.seq (.region [⟨some 18,.bin .lss .none (.t 17) (.c (.d (.int .i32 56320))),none,[]⟩,⟨some 19,.move (.t 17),some (18,false),[]⟩,⟨some 19,.bin .gtr .none (.t 19) (.c (.d (.int .i32 57343))),some (18,false),[]⟩,⟨some 10,.pick (.t 18) (.c (boolD true)) (.t 19),none,[]⟩] none [18,19]) (.cond (.t 10) (.region [⟨some 18,.call 26 [.t 0,.c (.d (.int .i64 11)),.t 12],none,[]⟩] none [18]) .skip)) (.seq (.region [⟨some 18,.bin .sub .none (.t 16) (.c (.d (.int .i32 55296))),none,[]⟩,⟨some 18,.bin .shl .none (.t 18) (.c (.d (.int .u64 10))),none,[]⟩,⟨some 18,.bin .add .none (.c (.d (.int .i32 65536))) (.t 18),none,[]⟩,⟨some 18,.bin .add .none (.t 18) (.t 17),none,[]⟩,⟨some 18,.bin .sub .none (.t 18) (.c (.d (.int .i32 56320))),none,[]⟩,⟨some 11,.move (.t 18),none,[18]⟩] none [18]) .ret))))))))) .skip)))))))))))))) (.seq (.region [⟨some 18,.toInt .i32 (.t 13),none,[]⟩,⟨some 11,.move (.t 18),none,[18]⟩] none [18]) .ret)))))),[.t 11]⟩
def c61:CFn:=
 ⟨2,5,true,.seq (.region [⟨some 2,.move (.c .niliface),none,[]⟩] none []) (.seq (.region [⟨some 3,.call 71 [.t 0],none,[]⟩] none [3]) (.seq (.region [⟨some 3,.nilCheck (.t 0),none,[]⟩,⟨some 3,.fieldAddr 1 (.t 3),none,[]⟩,⟨some 3,.loadTake (.t 3),none,[]⟩,⟨some 4,.buildSl 1 (.d (.int .u8 0)) 1 [(0,.t 1)],none,[]⟩,⟨some 3,.append 1 1 false (.t 3) (.t 4),none,[3]⟩,⟨some 4,.nilCheck (.t 0),none,[]⟩,⟨some 4,.fieldAddr 1 (.t 4),none,[]⟩,⟨none,.store 1 (.t 4) (.t 3),none,[3]⟩] none [3,4]) (.seq (.region [⟨some 2,.move (.c .niliface),none,[]⟩] none []) .ret))),[.t 2]⟩
def c63:CFn:=
 ⟨3,8,false,.seq (.region [⟨some 5,.move (.c (.d (.int .i64 0))),none,[]⟩] none []) (.seq (.block 0 (.seq (.region [⟨some 6,.load false 1 (.t 2),none,[]⟩,⟨some 6,.idxSl 1 (.t 6) (.t 0),none,[]⟩,⟨some 6,.load false 1 (.t 6),none,[]⟩,⟨some 7,.load false 1 (.t 2),none,[]⟩,⟨some 7,.idxSl 1 (.t 7) (.t 1),none,[]⟩,⟨some 7,.load false 1 (.t 7),none,[]⟩,⟨some 6,.bin .lss .none (.t 6) (.t 7),none,[]⟩,⟨some 3,.move (.t 6),none,[6]⟩] none [6,7]) (.cond (.t 3) (.seq (.region [⟨some 5,.move (.c (.d (.int .i64 (-1)))),none,[]⟩] none []) .ret) (.seq (.region [⟨some 6,.load false 1 (.t 2),none,[]⟩,⟨some 6,.idxSl 1 (.t 6) (.t 0),none,[]⟩,⟨some 6,.load false 1 (.t 6),none,[]⟩,⟨some 7,.load false 1 (.t 2),none,[]⟩,⟨some 7,.idxSl 1 (.t 7) (.t 1),none,[]⟩,⟨some 7,.load false 1 (.t 7),none,[]⟩,⟨some 6,.bin .gtr .none (.t 6) (.t 7),none,[]⟩,⟨some 4,.move (.t 6),none,[6]⟩] none [6,7]) (.cond (.t 4) (.seq (.region [⟨some 5,.move (.c (.d (.int .i64 1))),none,[]⟩] none []) .ret) .skip))))) (.seq (.region [⟨some 5,.move (.c (.d (.int .i64 0))),none,[]⟩] none []) .ret)),[.t 5]⟩
def c64:CFn:=
 ⟨2,5,false,.seq (.region [⟨some 3,.move (.c (.fslice [])),none,[]⟩] none []) (.seq (.region [⟨some 2,.move (.t 1),none,[]⟩] none []) (.cond (.t 2) (.seq (.region [⟨some 4,.move (.t 0),none,[0]⟩,⟨some 4,.append 1 1 true (.t 4) (.c (.d (.str [116,114,117,101]))),none,[4]⟩,⟨some 3,.move (.t 4),none,[4]⟩] none [4]) .ret) (.seq .skip (.seq (.region [⟨some 4,.move (.t 0),none,[0]⟩,⟨some 4,.append 1 1 true (.t 4) (.c (.d (.str [102,97,108,115,101]))),none,[4]⟩,⟨some 3,.move (.t 4),none,[4]⟩] none [4]) .ret)))),[.t 3]⟩
def c65:CFn:=
 ⟨3,8,false,.seq (.region [⟨some 4,.move (.c (.fslice [])),none,[]⟩] none []) (.seq (.region [⟨some 6,.toInt .u64 (.t 1),none,[]⟩,⟨some 5,.move (.t 6),none,[6]⟩] none [6]) (.seq (.seq (.region [⟨some 3,.bin .lss .none (.t 1) (.c (.d (.int .i64 0))),none,[]⟩] none []) (.cond (.t 3) (.seq (.region [⟨some 6,.move (.t 0),none,[0]⟩,⟨some 7,.buildSl 1 (.d (.int .u8 0)) 1 [(0,.c (.d (.int .u8 45)))],none,[]⟩,⟨some 6,.append 1 1 false (.t 6) (.t 7),none,[6]⟩,⟨some 0,.move (.t 6),none,[6]⟩] none [6,7]) (.region [⟨some 6,.move (.t 5),none,[]⟩,⟨some 6,.un .neg (.t 6),none,[]⟩,⟨some 5,.move (.t 6),none,[6]⟩] none [6])) .skip)) (.seq (.region [⟨some 6,.move (.t 0),none,[0]⟩,⟨some 6,.call 77 [.t 6,.t 5,.t 2],none,[6]⟩,⟨some 4,.move (.t 6),none,[6]⟩] none [6]) .ret))),[.t 4]⟩
def c66:CFn:=
 ⟨1,10,false,.seq (.region [⟨some 5,.move (.c (boolD false)),none,[]⟩] none []) (.seq (.seq (.region [⟨some 6,.move (.c (.d (.int .i64 0))),none,[]⟩] none []) (.block 0 (.loop (.seq (.seq (.region [⟨some 8,.len .sl (.t 0),none,[]⟩,⟨some 1,.bin .lss .none (.t 6) (.t 8),none,[]⟩] none [8]) (.cond (.t 1) .skip (.exit 0))) (.seq (.block 1 (.seq (.region [⟨some 8,.idxSl 1 (.t 0) (.t 6),none,[]⟩,⟨some 8,.load false 1 (.t 8),none,[]⟩,⟨some 8,.call 18 [.t 8],none,[]⟩,⟨some 2,.bin .geq .none (.t 8) (.c (.d (.int .i64 0))),none,[]⟩] none [8]) (.cond (.t 2) (.seq (.region [⟨some 5,.move (.c (boolD false)),none,[]⟩] none []) .ret) (.seq .skip (.seq (.region [⟨some 7,.move (.c (.d (.int .i64 0))),none,[]⟩] none []) (.block 2 (.loop (.seq (.seq (.region [⟨some 3,.bin .lss .none (.t 7) (.t 6),none,[]⟩] none []) (.cond (.t 3) .skip (.exit 2))) (.seq (.block 3 (.seq (.region [⟨some 8,.idxSl 1 (.t 0) (.t 6),none,[]⟩,⟨some 8,.load false 1 (.t 8),none,[]⟩,⟨some 9,.idxSl 1 (.t 0) (.t 7),none,[]⟩,⟨some 9,.load false 1 (.t 9),none,[]⟩,⟨some 4,.bin .eql .none (.t 8) (.t 9),none,[]⟩] none [8,9]) (.cond (.t 4) (.seq (.region [⟨some 5,.move (.c (boolD false)),none,[]⟩] none []) .ret) .skip))) (.region [⟨some 8,.move (.t 7),none,[]⟩,⟨some 8,.bin .add .none (.t 8) (.c (.d (.int .i64 1))),none,[]⟩,⟨some 7,.move (.t 8),none,[8]⟩] none [8])))))))))) (.region [⟨some 8,.move (.t 6),none,[]⟩,⟨some 8,.bin .add .none (.t 8) (.c (.d (.int .i64 1))),none,[]⟩,⟨some 6,.move (.t 8),none,[8]⟩] none [8])))))) (.seq (.region [⟨some 5,.move (.c (boolD true)),none,[]⟩] none []) .ret)),[.t 5]⟩
def c68:CFn:=
 ⟨1,11,false,.seq (.region [⟨some 3,.move (.c (boolD false)),none,[]⟩] none []) (.seq (.region [⟨some 9,.mkMap .str,none,[]⟩,⟨some 4,.move (.t 9),none,[9]⟩] none [9]) (.seq (.seq (.region [⟨some 5,.move (.t 0),none,[]⟩,⟨some 6,.len .sl (.t 5),none,[]⟩,⟨some 7,.move (.c (.d (.int .i64 0))),none,[]⟩] none []) (.block 0 (.loop (.seq (.region [⟨some 1,.bin .lss .none (.t 7) (.t 6),none,[]⟩] none []) (.seq (.cond (.t 1) .skip (.exit 0)) (.seq (.block 1 (.seq (.region [⟨some 9,.idxSl 1 (.t 5) (.t 7),none,[]⟩,⟨some 9,.load false 1 (.t 9),none,[]⟩,⟨some 8,.move (.t 9),none,[9]⟩] none [9]) (.seq (.region [⟨some 9,.lookup .str (boolD false) (.t 4) (.t 8) false,none,[]⟩,⟨some 10,.move (.t 8),some (9,false),[]⟩,⟨some 10,.call 67 [.t 10],some (9,false),[]⟩,⟨some 10,.un .not (.t 10),some (9,false),[]⟩,⟨some 2,.pick (.t 9) (.c (boolD true)) (.t 10),none,[]⟩] none [9,10]) (.cond (.t 2) (.seq (.region [⟨some 3,.move (.c (boolD false)),none,[]⟩] none []) .ret) (.seq .skip (.region [⟨none,.mapSet .str (.t 4) (.t 8) (.c (boolD true)),none,[]⟩] none [])))))) (.region [⟨some 9,.bin .add .none (.t 7) (.c (.d (.int .i64 1))),none,[]⟩,⟨some 7,.move (.t 9),none,[]⟩] none [9]))))))) (.seq (.region [⟨some 3,.move (.c (boolD true)),none,[]⟩] none []) .ret))),[.t 3]⟩
def c69:CFn:=
 ⟨2,9,false,.seq (.region [⟨some 4,.move (.c (.d (.int .i64 0))),none,[]⟩] none []) (.seq (.seq (.region [⟨some 5,.len .sl (.t 0),none,[]⟩,⟨some 6,.move (.c (.d (.int .i64 0))),none,[]⟩] none []) (.block 0 (.loop (.seq (.region [⟨some 2,.bin .lss .none (.t 6) (.t 5),none,[]⟩] none []) (.seq (.cond (.t 2) .skip (.exit 0)) (.seq (.block 1 (.seq (.region [⟨some 8,.move (.t 6),none,[6]⟩,⟨some 7,.move (.t 8),none,[8]⟩] none [8]) (.seq (.region [⟨some 8,.idxSl 5 (.t 0) (.t 7),none,[]⟩,⟨some 8,.load true 5 (.t 8),none,[]⟩,⟨some 3,.callV (.t 1) [.t 8],none,[]⟩] none [8]) (.cond (.t 3) (.seq (.region [⟨some 8,.move (.t 7),none,[7]⟩,⟨some 4,.move (.t 8),none,[8]⟩] none [8]) .ret) .skip)))) (.region [⟨some 8,.bin .add .none (.t 6) (.c (.d (.int .i64 1))),none,[]⟩,⟨some 6,.move (.t 8),none,[]⟩] none [8]))))))) (.seq (.region [⟨some 4,.move (.c (.d (.int .i64 (-1)))),none,[]⟩] none []) .ret)),[.t 4]⟩
def c72:CFn:=
 ⟨2,6,false,.seq (.region [⟨some 3,.move (.c (.fslice [])),none,[]⟩] none []) (.seq (.region [⟨some 4,.toInt .u32 (.t 1),none,[]⟩,⟨some 2,.bin .leq .none (.t 4) (.c (.d (.int .u32 127))),none,[]⟩] none [4]) (.cond (.t 2) (.seq (.region [⟨some 4,.move (.t 0),none,[0]⟩,⟨some 5,.toInt .u8 (.t 1),none,[]⟩,⟨some 5,.buildSl 1 (.d (.int .u8 0)) 1 [(0,.t 5)],none,[]⟩,⟨some 4,.append 1 1 false (.t 4) (.t 5),none,[4]⟩,⟨some 3,.move (.t 4),none,[4]⟩] none [4,5]) .ret) (.seq .skip (.seq (.region [⟨some 4,.move (.t 0),none,[0]⟩,⟨some 4,.call 80 [.t 4,.t 1],none,[4]⟩,⟨some 3,.move (.t 4),none,[4]⟩] none [4]) .ret)))),[.t 3]⟩
def c73:CFn:=
 ⟨1,10,true,.seq (.region [⟨some 4,.move (.c (.d (.int .i32 0))),none,[]⟩] none []) (.seq (.region [⟨some 5,.move (.c (.d (.int .i32 0))),none,[]⟩] none []) (.seq (.seq (.region [⟨some 6,.move (.c (.d (.int .i64 0))),none,[]⟩] none []) (.block 0 (.loop (.seq (.region [⟨some 1,.bin .lss .none (.t 6) (.c (.d (.int .i64 4))),none,[]⟩] none []) (.seq (.cond (.t 1) .skip (.exit 0)) (.seq (.block 1 (.seq (.region [⟨some 8,.call 37 [.t 0],none,[]⟩,⟨some 8,.call 36 [.c (.d (.str [48,49,50,51,52,53,54,55,56,57,97,98,99,100,101,102,65,66,67,68,69,70])),.t 8],none,[]⟩,⟨some 7,.move (.t 8),none,[8]⟩] none [8]) (.seq (.seq (.region [⟨some 8,.nilCheck (.t 0),none,[]⟩,⟨some 8,.fieldAddr 1 (.t 8),none,[]⟩,⟨some 8,.load false 1 (.t 8),none,[]⟩,⟨some 9,.nilCheck (.t 0),none,[]⟩,⟨some 9,.fieldAddr 0 (.t 9),none,[]⟩,⟨some 9,.load false 1 (.t 9),none,[]⟩,⟨some 9,.len .str (.t 9),none,[]⟩,⟨some 8,.bin .eql .none (.t 8) (.t 9),none,[]⟩,⟨some 9,.move (.t 7),some (8,false),[]⟩,⟨some 9,.bin .lss .none (.t 9) (.c (.d (.int .i64 0))),some (8,false),[]⟩,⟨some 2,.pick (.t 8) (.c (boolD true)) (.t 9),none,[]⟩] none [8,9]) (.cond (.t 2) (.region [⟨some 8,.nilCheck (.t 0),none,[]⟩,⟨some 8,.fieldAddr 1 (.t 8),none,[]⟩,⟨some 8,.load false 1 (.t 8),none,[]⟩,⟨some 8,.call 26 [.t 0,.c (.d (.int .i64 11)),.t 8],none,[]⟩] none [8]) .skip)) (.seq (.seq (.region [⟨some 3,.bin .gtr .none (.t 7) (.c (.d (.int .i64 15))),none,[]⟩] none []) (.cond (.t 3) (.region [⟨some 8,.move (.t 7),none,[]⟩,⟨some 8,.bin .sub .none (.t 8) (.c (.d (.int .i64 6))),none,[]⟩,⟨some 7,.move (.t 8),none,[8]⟩] none [8]) .skip)) (.seq (.region [⟨some 8,.move (.t 5),none,[]⟩,⟨some 8,.bin .shl .none (.t 8) (.c (.d (.int .u64 4))),none,[]⟩,⟨some 9,.toInt .i32 (.t 7),none,[]⟩,⟨some 8,.bin .or .none (.t 8) (.t 9),none,[]⟩,⟨some 5,.move (.t 8),none,[8]⟩] none [8,9]) (.region [⟨some 8,.nilCheck (.t 0),none,[]⟩,⟨some 8,.fieldAddr 1 (.t 8),none,[]⟩,⟨some 8,.load false 1 (.t 8),none,[]⟩,⟨some 8,.bin .add .none (.t 8) (.c (.d (.int .i64 1))),none,[]⟩,⟨some 9,.nilCheck (.t 0),none,[]⟩,⟨some 9,.fieldAddr 1 (.t 9),none,[]⟩,⟨none,.store 1 (.t 9) (.t 8),none,[8]⟩] none [8,9])))))) (.region [⟨some 8,.bin .add .none (.t 6) (.c (.d (.int .i64 1))),none,[]⟩,⟨some 6,.move (.t 8),none,[]⟩] none [8]))))))) (.seq (.region [⟨some 8,.move (.t 5),none,[5]⟩,⟨some 4,.move (.t 8),none,[8]⟩] none [8]) .ret))),[.t 4]⟩
def c74:CFn:=
 ⟨2,4,false,.seq (.region [⟨some 2,.move (.c (boolD false)),none,[]⟩] none []) (.seq (.region [⟨some 3,.call 81 [.t 0,.t 1],none,[]⟩,⟨some 2,.move (.t 3),none,[3]⟩] none [3]) .ret),[.t 2]⟩
def c77:CFn:=
 ⟨3,10,false,.seq (.region [⟨some 5,.move (.c (.fslice [])),none,[]⟩] none []) (.seq (.region [⟨some 3,.bin .eql .none (.t 2) (.c (.d (.int .i64 10))),none,[]⟩] none []) (.cond (.t 3) (.seq (.region [⟨some 4,.bin .lss .none (.t 1) (.c (.d (.int .u64 100))),none,[]⟩] none []) (.cond (.t 4) (.seq (.region [⟨some 8,.move (.t 0),none,[0]⟩,⟨some 9,.toInt .i64 (.t 1),none,[]⟩,⟨some 9,.call 92 [.t 9],none,[]⟩,⟨some 8,.append 1 1 true (.t 8) (.t 9),none,[8]⟩,⟨some 5,.move (.t 8),none,[8]⟩] none [8,9]) .ret) (.seq .skip (.seq (.region [⟨some 6,.new [.d (.int .u8 0),.d (.int .u8 0),.d (.int .u8 0),.d (.int .u8 0),.d (.int .u8 0),.d (.int .u8 0),.d (.int .u8 0),.d (.int .u8 0),.d (.int .u8 0),.d (.int .u8 0),.d (.int .u8 0),.d (.int .u8 0),.d (.int .u8 0),.d (.int .u8 0),.d (.int .u8 0),.d (.int .u8 0),.d (.int .u8 0),.d (.int .u8 0),.d (.int .u8 0),.d (.int .u8 0),.d (.int .u8 0),.d (.int .u8 0),.d (.int .u8 0),.d (.int .u8 0)],none,[]⟩] none []) (.seq (.region [⟨some 8,.call 93 [.t 1],none,[]⟩,⟨some 7,.move (.t 8),none,[8]⟩] none [8]) (.seq (.region [⟨some 8,.slArr 24 1 (.t 6) none (some (.t 7)),none,[]⟩,⟨some 8,.call 94 [.t 8,.t 1],none,[]⟩] none [8]) (.seq (.region [⟨some 8,.move (.t 0),none,[0]⟩,⟨some 9,.slArr 24 1 (.t 6) none (some (.t 7)),none,[]⟩,⟨some 8,.append 1 1 false (.t 8) (.t 9),none,[8]⟩,⟨some 5,.move (.t 8),none,[8]⟩] none [8,9]) .ret))))))) (.seq .skip (.seq (.region [⟨some 8,.move (.t 0),none,[]⟩,⟨some 8,.call 95 [.t 8,.t 1,.t 2,.c (boolD false),.c (boolD true)],none,[]⟩,⟨some 9,.extract (.t 8) 0,none,[]⟩,⟨some 8,.extract (.t 8) 1,none,[]⟩,⟨some 0,.move (.t 9),none,[9]⟩] none [8,9]) (.seq (.region [⟨some 8,.move (.t 0),none,[0]⟩,⟨some 5,.move (.t 8),none,[8]⟩] none [8]) .ret))))),[.t 5]⟩
def c80:CFn:=
 ⟨2,12,false,.seq (.region [⟨some 5,.move (.c (.fslice [])),none,[]⟩] none []) (.seq (.region [⟨some 7,.toInt .u32 (.t 1),none,[]⟩,⟨some 6,.move (.t 7),none,[7]⟩] none [7]) (.block 0 (.seq (.region [⟨some 7,.bin .leq .none (.t 6) (.c (.d (.int .u32 2047))),none,[]⟩,⟨some 2,.move (.t 7),none,[7]⟩] none [7]) (.cond (.t 2) (.seq (.region [⟨some 7,.move (.t 0),none,[0]⟩,⟨some 8,.bin .shr .none (.t 1) (.c (.d (.int .u64 6))),none,[]⟩,⟨some 8,.toInt .u8 (.t 8),none,[]⟩,⟨some 8,.bin .or .none (.c (.d (.int .u8 192))) (.t 8),none,[]⟩,⟨some 9,.toInt .u8 (.t 1),none,[]⟩,⟨some 9,.bin .and .none (.t 9) (.c (.d (.int .u8 63))),none,[]⟩,⟨some 9,.bin .or .none (.c (.d (.int .u8 128))) (.t 9),none,[]⟩,⟨some 8,.buildSl 1 (.d (.int .u8 0)) 2 [(0,.t 8),(1,.t 9)],none,[]⟩,⟨some 7,.append 1 1 false (.t 7) (.t 8),none,[7]⟩,⟨some 5,.move (.t 7),none,[7]⟩] none [7,8,9]) .ret) (.seq (.seq (.region [⟨some 7,.bin .lss .none (.t 6) (.c (.d (.int .u32 55296))),none,[]⟩,⟨some 3,.move (.t 7),none,[7]⟩] none [7]) (.cond (.t 3) .skip (.region [⟨some 7,.bin .lss .none (.c (.d (.int .u32 57343))) (.t 6),none,[]⟩,⟨some 8,.move (.t 6),some (7,true),[]⟩,⟨some 8,.bin .leq .none (.t 8) (.c (.d (.int .u32 65535))),some (7,true),[]⟩,⟨some 7,.pick (.t 7) (.t 8) (.c (boolD false)),none,[]⟩,⟨some 3,.move (.t 7),none,[7]⟩] none [7,8]))) (.cond (.t 3) (.seq (.region [⟨some 7,.move (.t 0),none,[0]⟩,⟨some 8,.bin .shr .none (.t 1) (.c (.d (.int .u64 12))),none,[]⟩,⟨some 8,.toInt .u8 (.t 8),none,[]⟩,⟨some 8,.bin .or .none (.c (.d (.int .u8 224))) (.t 8),none,[]⟩,⟨some 9,.bin .shr .none (.t 1) (.c (.d (.int .u64 6))),none,[]⟩,⟨some 9,.toInt .u8 (.t 9),none,[]⟩,⟨some 9,.bin .and .none (.t 9) (.c (.d (.int .u8 63))),none,[]⟩,⟨some 9,.bin .or .none (.c (.d (.int .u8 128))) (.t 9),none,[]⟩,⟨some 10,.toInt .u8 (.t 1),none,[]⟩,⟨some 10,.bin .and .none (.t 10) (.c (.d (.int .u8 63))),none,[]⟩,⟨some 10,.bin .or .none (.c (.d (.int .u8 128))) (.t 10),none,[]⟩,⟨some 8,.buildSl 1 (.d (.int .u8 0)) 3 [(0,.t 8),(1,.t 9),(2,.t 10)],none,[]⟩,⟨some 7,.append 1 1 false (.t 7) (.t 8),none,[7]⟩,⟨some 5,.move (.t 7),none,[7]⟩] none [7,8,9,10]) .ret) (.seq (.region [⟨some 7,.bin .gtr .none (.t 6) (.c (.d (.int .u32 65535))),none,[]⟩,⟨some 8,.move (.t 6),some (7,true),[]⟩,⟨some 8,.bin .leq .none (.t 8) (.c (.d (.int .u32 1114111))),some (7,true),[]⟩,⟨some 7,.pick (.t 7) (.t 8) (.c (boolD false)),none,[]⟩,⟨some 4,.move (.t 7),none,[7]⟩] none [7,8]) (.cond (.t 4) (.seq (.region [⟨some 7,.move (.t 0),none,[0]⟩,⟨some 8,.bin .shr .none (.t 1) (.c (.d (.int .u64 18))),none,[]⟩,⟨some 8,.toInt .u8 (.t 8),none,[]⟩,⟨some 8,.bin .or .none (.c (.d (.int .u8 240))) (.t 8),none,[]⟩,⟨some 9,.bin .shr .none (.t 1) (.c (.d (.int .u64 12))),none,[]⟩,⟨some 9,.toInt .u8 (.t 9),none,[]⟩,⟨some 9,.bin .and .none (.t 9) (.c (.d (.int .u8 63))),none,[]⟩,⟨some 9,.bin .or .none (.c (.d (.int .u8 128))) (.t 9),none,[]⟩,⟨some 10,.bin .shr .none (.t 1) (.c (.d (.int .u64 6))),none,[]⟩,⟨some 10,.toInt .u8 (.t 10),none,[]⟩,⟨some 10,.bin .and .none (.t 10) (.c (.d (.int .u8 63))),none,[]⟩,⟨some 10,.bin .or .none (.c (.d (.int .u8 128))) (.t 10),none,[]⟩,⟨some 11,.toInt .u8 (.t 1),none,[]⟩,⟨some 11,.bin .and .none (.t 11) (.c (.d (.int .u8 63))),none,[]⟩,⟨some 11,.bin .or .none (.c (.d (.int .u8 128))) (.t 11),none,[]⟩,⟨some 8,.buildSl 1 (.d (.int .u8 0)) 4 [(0,.t 8),(1,.t 9),(2,.t 10),(3,.t 11)],none,[]⟩,⟨some 7,.append 1 1 false (.t 7) (.t 8),none,[7]⟩,⟨some 5,.move (.t 7),none,[7]⟩] none [7,8,9,10,11]) .ret) (.seq (.region [⟨some 7,.move (.t 0),none,[0]⟩,⟨some 8,.buildSl 1 (.d (.int .u8 0)) 3 [(0,.c (.d (.int .u8 239))),(1,.c (.d (.int .u8 191))),(2,.c (.d (.int .u8 189)))],none,[]⟩,⟨some 7,.append 1 1 false (.t 7) (.t 8),none,[7]⟩,⟨some 5,.move (.t 7),none,[7]⟩] none [7,8]) .ret))))))))),[.t 5]⟩
def c81:CFn:=
 ⟨2,6,false,.seq (.region [⟨some 2,.move (.c (boolD false)),none,[]⟩] none []) (.seq (.region [⟨some 3,.len .str (.t 0),none,[]⟩,⟨some 4,.len .str (.t 1),none,[]⟩,⟨some 3,.bin .geq .none (.t 3) (.t 4),none,[]⟩,⟨some 4,.move (.t 0),some (3,true),[]⟩,⟨some 5,.move (.t 1),some (3,true),[]⟩,⟨some 5,.len .str (.t 5),some (3,true),[]⟩,⟨some 4,.slStr (.t 4) none (some (.t 5)),some (3,true),[]⟩,⟨some 5,.move (.t 1),some (3,true),[]⟩,⟨some 4,.bin .eql .none (.t 4) (.t 5),some (3,true),[]⟩,⟨some 3,.pick (.t 3) (.t 4) (.c (boolD false)),none,[]⟩,⟨some 2,.move (.t 3),none,[3]⟩] none [3,4,5]) .ret),[.t 2]⟩
def c93:CFn:=
 ⟨1,4,false,.seq (.region [⟨some 1,.move (.c (.d (.int .i64 0))),none,[]⟩] none []) (.seq (.region [⟨some 3,.call 91 [.t 0],none,[]⟩,⟨some 3,.call 101 [.t 3],none,[]⟩,⟨some 2,.move (.t 3),none,[3]⟩] none [3]) (.seq (.region [⟨some 3,.idxArr 20 1 (.c (.pref tab3)) (.t 2),none,[]⟩,⟨some 3,.load false 1 (.t 3),none,[]⟩,⟨some 3,.bin .geq .none (.t 0) (.t 3),none,[]⟩,⟨some 3,.call 102 [.t 3],none,[]⟩,⟨some 3,.bin .add .none (.t 2) (.t 3),none,[]⟩,⟨some 1,.move (.t 3),none,[3]⟩] none [3]) .ret)),[.t 1]⟩
def c101:CFn:=
 ⟨1,3,false,.seq (.region [⟨some 1,.move (.c (.d (.int .i64 0))),none,[]⟩] none []) (.seq (.region [⟨some 2,.bin .mul .none (.t 0) (.c (.d (.int .i64 78913))),none,[]⟩,⟨some 2,.bin .shr .none (.t 2) (.c (.d (.int .u64 18))),none,[]⟩,⟨some 1,.move (.t 2),none,[2]⟩] none [2]) .ret),[.t 1]⟩
def c102:CFn:=
 ⟨1,3,false,.seq (.region [⟨some 2,.move (.c (.d (.int .i64 0))),none,[]⟩] none []) (.seq (.region [⟨some 1,.move (.t 0),none,[]⟩] none []) (.cond (.t 1) (.seq (.region [⟨some 2,.move (.c (.d (.int .i64 1))),none,[]⟩] none []) .ret) (.seq .skip (.seq (.region [⟨some 2,.move (.c (.d (.int .i64 0))),none,[]⟩] none []) .ret)))),[.t 2]⟩
def codeL:List (Option CFn):= [none,none,none,none,none,none,none,some c7,none,none,none,some c11,some c12,some c13,some c14,some c15,some c16,some c17,some c18,some c19,some c20,some c21,some c22,none,some c24,some c25,some c26,some c27,some c28,some c29,some c30,some c31,some c32,some c33,some c34,none,some c36,some c37,some c38,some c39,some c40,some c41,some c42,some c43,some c44,some c45,some c46,some c47,some c48,some c49,some c50,some c51,some c52,some c53,some c54,none,some c56,some c57,none,some c59,some c60,some c61,none,some c63,some c64,some c65,some c66,none,some c68,some c69,none,none,some c72,some c73,some c74,none,none,some c77,none,none,some c80,some c81,none,none,none,none,none,none,none,none,none,none,none,some c93,none,none,none,none,none,none,none,some c101,some c102]
abbrev code:FuncId→Option CFn:=Qdx codeL
def pf:FuncId→Bool:=fun f=> [25,26,39,40,41,42,43,57,60,73].contains f
abbrev QdB(e p:Nat):PV:=(45,.agg [.int .i64 e,.int .i64 p])
abbrev rdO(s:Tx)(p:Nat):AObj:= .cells [.d (.str s),intD p]
def Qi9:QbC:=fun lim args H=>match args with
 | [.ptr r 0]=>match H[r]? with
   |some (.cells [.d (.str s),.d (.int .i64 p)])=>if lim≤r∧0≤p∧p≤s.length∧s.length≤16384 then match Qcc s p.toNat with
    |.ok (t,q)=>some (.d (.str t),H.set r (rdO s q))
    |.error _=>none
    else none
   |_=>none
 |_=>none
def Qgm:QeW:=fun lim args H=>match args with
 | [.ptr r 0]=>match H[r]? with
   |some (.cells [.d (.str s),.d (.int .i64 p)])=>if lim≤r∧0≤p∧p≤s.length∧s.length≤16384 then match Qcc s p.toNat with
    |.ok _=>none
    |.error (e,q)=>some (QdB e q)
    else none
   |_=>none
 |_=>none
def Qi6:QbC:=fun _ args H=>match args with
 | [.d (.str s)]=>if s.length≤9223372036854775807 then some (boolD (Lib.validD s),H)else none
 |_=>none
def dg(s:Tx):Nat×Nat:=if s.length=0 then(65533,0)else dec s 0
def decF:QbC:=fun _ args H=>match args with
 | [.d (.str s)]=>some (.tuple [.d (.int .i32 ((dg s).1:Nat)),intD ((dg s).2:Nat)],H)
 |_=>none
def QdA:List D→Option (List Tx)
 | []=>some []
 |.str s::l=>(QdA l).map fun r=>s::r
 |_::_=>none
def Qkw:QbC:=fun lim args H=>match args with
 | [.oslice r 0 n _ 1,.func (.func 63) [.ptr k 0]]=>match H[r]?,H[k]? with
   |some (.cells cs),some (.cells [.d (.slice xs)])=>match QdA xs with
    |some ks=>if lim≤r∧r≠k∧n=ks.length∧n<1000000000000∧ks.Nodup∧cs.length=n∧AObj.beq (.cells cs) (.cells ((List.range n).map fun(i:Nat)=>intD (i:Int)))=true then some (.tuple [],H.set r (.cells ((Qay ks).map fun(i:Nat)=>intD (i:Int))))else none
    |none=>none
   |_,_=>none
 |_=>none
def QdD(n:Nat):Tx:=if n<10 then [UInt8.ofNat (48+n)]else [UInt8.ofNat (48+n/10),UInt8.ofNat (48+n % 10)]
def QhD:QbC:=fun _ args H=>match args with
 | [.d (.int .i64 i)]=>if 0≤i∧i<100 then some (.d (.str (QdD i.toNat)),H)else none
 |_=>none
def QhY:QbC:=fun _ args H=>match args with
 | [.d (.int .u64 u)]=>if 0≤u∧u<18446744073709551616 then some (intD (Lib.bitLen u.toNat:Nat),H)else none
 |_=>none
def fbF:QbC:=fun lim args H=>match args with
 | [.oslice r 0 n _ 1,.d (.int .u64 u)]=>match H[r]? with
   |some (.cells cs)=>if lim≤r∧0≤u∧u<18446744073709551616∧n=Lib.nDigits u.toNat∧n≤24∧n≤cs.length∧AV.beqs (cs.take n) (List.replicate n (.d (.int .u8 0)))=true then
     some (.tuple [],H.set r (.cells (splice cs 0 ((Lib.decDigits u.toNat).map fun b=>AV.d (byteD b)))))else none
   |_=>none
 |_=>none
def QfL(H:Qaa):AV→Option Tx
 |.d (.slice xs)=>QbV xs
 |.oslice r off len _ sz=>if sz=1 then match H[r]? with
  |some (.cells cs)=>if off+len≤cs.length then AV.bytes ((cs.drop off).take len)else none
  |_=>none else none
 |_=>none
abbrev QcI:Except (Nat×Nat) J→AV
 |.ok j=> .tuple [.d j.d,intD 0,intD 0]
 |.error e=> .tuple [.d J.zero.d,intD e.1,intD e.2]
def Qen:QbC:=fun _ args H=>match args with
 | [v]=>(QfL H v).map fun s=>(QcI (QaP s),H)
 |_=>none
def QaH:FuncId→Option QbC:=fun f=>if f=67 then some Qi6 else if f=70 then some QcR else if f=35 then some decF else if f=62 then some Qkw else if f=92 then some QhD else if f=91 then some QhY else if f=94 then some fbF else none
def Qbb:FuncId→Option QbC:=fun f=>if f=41 then some Qi9 else QaH f
def QdK:FuncId→Option QeW:=fun f=>if f=41 then some Qgm else none
def Qgv:FuncId→Option QbC:=fun f=>if f=10 then some Qen else Qbb f
def Qo8:QbC:=fun _ args H=>match args with
 | []=>some (boolD true,H)
 |_=>none
def Qap:FuncId→Option QbC:=fun f=>if f=11 then some Qo8 else Qgv f
def low(f:FuncId):Bool:= !([10,11,35,41,62,67,70,91,92,94]:List FuncId).contains f
class POK (pr:FuncId→Option QbC):Prop where
 low:∀f,low f=true→pr f=none
 idx:pr 70=some QcR
 dec:pr 35=some decF
 valid:pr 67=some Qi6
 sort:pr 62=some Qkw
 small:pr 92=some QhD
 len:pr 91=some QhY
 fb:pr 94=some fbF
class PPOK (pr:FuncId→Option QbC) (pP:FuncId→Option QeW):Prop where
 low:∀f,low f=true→pP f=none
 disj:Qdu pr pP
theorem pn{pr:FuncId→Option QbC} [h:POK pr]{f:FuncId}(hf:low f=true):pr f=none:=h.low f hf
theorem pnP{pr:FuncId→Option QbC}{pP:FuncId→Option QeW} [h:PPOK pr pP]{f:FuncId}(hf:low f=true):pP f=none:=h.low f hf
instance{pr:FuncId→Option QbC}{pP:FuncId→Option QeW} [h:PPOK pr pP]:Parts (QaF code pr) (Qcl code pf pr pP):=⟨Qmd h.disj⟩
theorem QjF{f:FuncId}(h:low f=true):f≠10∧f≠11∧f≠35∧f≠41∧f≠62∧f≠67∧f≠70∧f≠91∧f≠92∧f≠94:=by
 refine⟨?_, ?_, ?_, ?_, ?_, ?_, ?_, ?_, ?_, ?_⟩<;>(rintro rfl;cases h)
instance:POK QaH:=⟨fun f h=>by have:=QjF h;simp only[QaH,this,if_false],rfl,rfl,rfl,rfl,rfl,rfl,rfl⟩
instance:POK Qbb:=⟨fun f h=>by have:=QjF h;simp only[Qbb,QaH,this,if_false],rfl,rfl,rfl,rfl,rfl,rfl,rfl⟩
instance:POK Qgv:=⟨fun f h=>by have:=QjF h;simp only[Qgv,Qbb,QaH,this,if_false],rfl,rfl,rfl,rfl,rfl,rfl,rfl⟩
instance:POK Qap:=⟨fun f h=>by have:=QjF h;simp only[Qap,Qgv,Qbb,QaH,this,if_false],rfl,rfl,rfl,rfl,rfl,rfl,rfl⟩
instance{pr:FuncId→Option QbC}:PPOK pr (fun _=>none):=⟨fun _ _=>rfl,fun _ _ h=>by cases h⟩
theorem QhH:Qdu Qbb QdK:=fun f FP h=>by
 unfold QdK at h
 split at h
 ·rename_i hf
  subst hf
  simp only[Option.some.injEq]at h;subst h
  refine⟨Qi9,rfl,fun lim a H v h=> ?_⟩
  unfold Qgm at h
  unfold Qi9
  split at h
  ·split at h
   ·rename_i hg
    split at h
    ·rename_i hc
     split at h
     ·cases h
     ·rename_i h1;simp[hg,hc,h1]
    ·cases h
   ·cases h
  ·cases h
 ·cases h
abbrev X0:Nat→Qbk:=QaF code Qbb
abbrev XP:Nat→Qfw:=Qcl code pf Qbb QdK
instance:PPOK Qbb QdK:=⟨fun f h=>by have:=QjF h;simp only[QdK,this,if_false],QhH⟩
abbrev X1:Nat→Qbk:=QaF code QaH
abbrev XP1:Nat→Qfw:=Qcl code pf QaH (fun _=>none)
end Go.Proofs.YtmhmjlfajlpabaaDoor
