/- Part 6. -/
import Derived.Test.YtmhmjlfajlpabaaDoorPartE
import Derived.KernelRfl
import Derived.Test.YtmhmjlfajlpabaaDoorProg
import Derived.Lib.FrozenHead2
import Derived.Test.YtmhmjlfajlpabaaDoorChecked
import Derived.Shelf.Strings.Builder1
import Derived.Shelf.RegionOpenPlain
import Derived.Lib.Hide
set_option linter.all false
set_option maxRecDepth 100000
namespace Go.Proofs.YtmhmjlfajlpabaaDoor
open Go Go.Abs Go.Lib
theorem Qlt(lim:Nat)(H:Qaa)(s:Tx)(hs:s.length≤100000000000):Ev (QaF code Qap) 67 lim [.d (.str s)] H (boolD (vB s)) H:=by
 refine QcO (F:=Qi6) POK.valid ?_
 unfold Qi6
 simp only
 rw[if_pos (by omega)]
def mE(s:Tx):D×AV:=(.str s,.d (.bool true))
theorem Qlg(s t:Tx):D.beq (.str s) (.str t)=decide (s=t):=by
 rw[Bool.eq_iff_iff];simp[D.beq]
theorem QoK:∀ {rows:List Tx} {s:Tx},s∉rows→Qem (.str s) (rows.map mE)=none
 | [],_,_=>rfl
 |t::rows,s,h=>by
  have h1:s≠t:=fun e=>h (e▸List.mem_cons_self)
  show(if D.beq (.str s) (.str t)then _ else Qem (.str s) (rows.map mE))=none
  rw[Qlg,decide_eq_false h1,if_neg (by simp)]
  exact QoK fun k=>h (List.mem_cons_of_mem _ k)
theorem Qmb:∀ {rows:List Tx} {s:Tx},s∈rows→Qem (.str s) (rows.map mE)=some (.d (.bool true))
 |t::rows,s,h=>by
  show(if D.beq (.str s) (.str t)then some (.d (.bool true))else Qem (.str s) (rows.map mE))=_
  rw[Qlg]
  by_cases h1:s=t
  ·rw[decide_eq_true h1,if_pos rfl]
  ·rw[decide_eq_false h1,if_neg (by simp)]
   rcases List.mem_cons.1 h with e|h
   ·exact absurd e h1
   ·exact Qmb h
theorem set_no:∀ {rows:List Tx} {s:Tx},s∉rows→QlB (.str s) (.d (.bool true)) (rows.map mE)=(rows++ [s]).map mE
 | [],_,_=>rfl
 |t::rows,s,h=>by
  have h1:s≠t:=fun e=>h (e▸List.mem_cons_self)
  show(if D.beq (.str s) (.str t)then _ else(.str t,.d (.bool true))::QlB (.str s) (.d (.bool true)) (rows.map mE))=_
  rw[Qlg,decide_eq_false h1,if_neg (by simp),set_no fun k=>h (List.mem_cons_of_mem _ k)]
  rfl
theorem named_ev(lim:Nat)(H:Qaa)(ks:List Tx)(hk:ks.length≤100000000000)(hs:∀s∈ks,s.length≤100000000000):Ev (QaF code Qap) 68 lim [.d (sD ks)] H (boolD (QbE ks)) H:=by
 refine Fn.ev ?_
 refine Qbj (pn rfl) rfl (show code 68=some c68 from rfl) rfl ?_;simp only[List.length_cons,List.length_nil,List.cons_append,List.nil_append,simprocAttr]
 refine w_r (@List.length_map.{0,0}) ?_
 refine Qki (fun k st=>∃(i:Nat) (K:Qaa),i≤ks.length∧k=ks.length-i∧(ks.take i).all vB=true∧(ks.take i).Nodup∧K[H.length]? =some (.map .str ((ks.take i).map mE))∧∃x:Nat→AV,st=⟨[x 0,x 1,x 2,boolD false,.mapr H.length,.d (sD ks),intD ks.length,intD i,x 8,x 9,x 10],K⟩) ?_ _ _ ⟨0,_,Nat.zero_le _,rfl,rfl,List.nodup_nil,Qbr _ _,Qam _ _ _ rfl⟩
 rintro k _ ⟨i,K,hi,rfl,ha,hnd,gK,x,rfl⟩
 by_cases t0:i<ks.length
 ·have f1:((i:Int)<(ks.length:Int))=True:=eq_true (by omega)
  have w1:IntKind.i64.wrap ((i:Int)+1)=((i+1:Nat):Int):=Qef (by omega)
  obtain⟨s,hsx⟩:∃s,ks[i]? =some s:=⟨_,List.getElem?_eq_getElem t0⟩
  have hc:∀s:Tx,(D.str s).cells= [D.str s]:=fun _=>rfl
  have hik:∀s:Tx,Qck .str (.str s)=true:=fun _=>rfl
  have hst:=Qlj hsx vB
  rw[ha,Bool.true_and]at hst
  by_cases hm:s∈ks.take i
  ·have hf:=Qmb hm
   have hno:QbE ks=false:=by
    obtain⟨q,hq,he⟩:=List.getElem_of_mem hm
    have hq':q<i:=by simp at hq;omega
    rw[List.getElem_take]at he
    exact QlT hsx (by rw[←he];exact List.getElem?_eq_getElem _) hq'
   rw[hno]
   generalize(ks.take i).map mE=es at*
   refine w_r (j_ gK (j_ f1 (j_ hsx (j_ hc (j_ hik (j_ hf (@List.length_map.{0,0}))))))) ?_
   exact Qae rfl rfl ⟨rfl,rfl⟩
  ·have hf:=QoK hm
   have hse:=set_no hm
   have hx:ks.take i++ [s]=ks.take (i+1):=by rw[List.take_add_one,hsx];rfl
   rw[hx]at hse
   have hn2:=QhS hsx hnd hm
   have he:=Qlt H.length K s (hs s (List.mem_of_getElem? hsx))
   have hl:H.length<K.length:=(List.getElem?_eq_some_iff.1 gK).1
   have gS:∀o:AObj,(K.set H.length o)[H.length]? =some o:=fun o=>List.getElem?_set_self hl
   cases hv:vB s with
   |true=>
    rw[hv]at he hst
    obtain⟨es,hes⟩:∃es,(ks.take i).map mE=es:=⟨_,rfl⟩
    rw[hes]at gK hf hse
    (iterate 10 refine w_s (j_ gK (j_ f1 (j_ hsx (j_ hc (@List.length_map.{0,0}))))) ?_)
    refine w_1 he (j_ gK (j_ hik hf)) ?_
    refine w_r (j_ gK (j_ hik (j_ hse w1))) ?_
    exact⟨ks.length-(i+1),by omega,i+1,_,t0,rfl,hst,hn2,gS _,Qam _ _ _ rfl⟩
   |false=>
    rw[hv]at he
    have hno:QbE ks=false:=by unfold QbE;rw[Qpc hsx hv];rfl
    rw[hno]
    obtain⟨es,hes⟩:∃es,(ks.take i).map mE=es:=⟨_,rfl⟩
    rw[hes]at gK hf hse
    (iterate 10 refine w_s (j_ gK (j_ f1 (j_ hsx (j_ hc (@List.length_map.{0,0}))))) ?_)
    refine w_1 he (j_ gK (j_ hik hf)) ?_
    refine w_r trivial ?_
    exact Qae rfl rfl ⟨rfl,rfl⟩
 ·obtain rfl:i=ks.length:=by omega
  have f1:((ks.length:Int)<(ks.length:Int))=False:=eq_false (by omega)
  rw[List.take_length]at ha hnd
  have:QbE ks=true:=by unfold QbE;rw[ha,decide_eq_true hnd];rfl
  rw[this]
  refine w_r (j_ f1 (@List.length_map.{0,0})) ?_
  exact Qae rfl rfl ⟨rfl,rfl⟩
set_option maxHeartbeats 1000000 in
theorem shape_ev(lim:Nat)(H:Qaa)(j:J)(hj:Sh j):Ev (QaF code Qap) 52 lim [.d j.d] H (boolD (Qas j)) H:=by
 refine Fn.ev ?_
 refine Qbj (pn rfl) rfl (show code 52=some c52 from rfl) rfl ?_;simp only[List.length_cons,List.length_nil,List.cons_append,List.nil_append,simprocAttr]
 obtain⟨s1,s2,s3,s4⟩:=hj
 obtain⟨K,hK⟩:∃K,H++ [AObj.cells (jC j)]=K:=⟨_,rfl⟩
 have gK:K[H.length]? =some (.cells (jC j)):=by rw[←hK];exact Qbr _ _
 have hjd:=jd j
 have w0:IntKind.i64.wrap ((j.ks.length:Int)+(j.l.length:Int))=((j.ks.length+j.l.length:Nat):Int):=by rw[w64 (by omega) (by omega)];omega
 have eE:(((j.ks.length+j.l.length:Nat):Int)==0)=Qbd j:=by rw[eq0];exact decide_eq_decide.2 (by omega)
 have eN:=eq0 j.n 0
 have eN1:=eq0 j.n 1
 have eT:=eqT j.t []
 have hr:Qas j=if j.k=0 then Qbd j&&decide (j.n=0)&&decide (j.t= [])
  else if j.k=1 then Qbd j&&decide (j.t= [])&&(decide (j.n=0)||decide (j.n=1))
  else if j.k=2 then Qbd j&&decide (j.t= [])&&decide (-9007199254740991≤j.n)&&decide (j.n≤9007199254740991)
  else if j.k=3 then Qbd j&&decide (j.n=0)&&vB j.t
  else if j.k=4 then decide (j.ks.length=0)&&decide (j.n=0)&&decide (j.t= [])
  else if j.k=5 then decide (j.ks.length=j.l.length)&&decide (j.n=0)&&decide (j.t= [])&&QbE j.ks
  else false:=rfl
 rw[hr]
 (iterate 2 refine w_s (j_ hjd hK) ?_)
 (iterate 4 refine w_s (j_ gK (j_ w0 (j_ eE (@List.length_map.{0,0})))) ?_)
 have k0e:=eq0 j.k 0
 have k1e:=eq0 j.k 1
 have k2e:=eq0 j.k 2
 have k3e:=eq0 j.k 3
 have k4e:=eq0 j.k 4
 have k5e:=eq0 j.k 5
 by_cases k0:j.k=0
 ·rw[if_pos k0]
  rw[decide_eq_true k0]at k0e
  generalize Qbd j=b1 at*
  generalize decide (j.n=0)=b2 at*
  generalize decide (j.t= [])=b3 at*
  cases b1<;>cases b2<;>cases b3<;>(refine w_r (j_ gK (j_ k0e (j_ eN eT))) ?_;exact Qae rfl rfl ⟨rfl,rfl⟩)
 rw[if_neg k0]
 rw[decide_eq_false k0]at k0e
 by_cases k1:j.k=1
 ·rw[if_pos k1]
  rw[decide_eq_true k1]at k1e
  generalize Qbd j=b1 at*
  generalize decide (j.n=0)=b2 at*
  generalize decide (j.n=1)=b4 at*
  generalize decide (j.t= [])=b3 at*
  cases b1<;>cases b2<;>cases b3<;>cases b4<;>(refine w_r (j_ gK (j_ k0e (j_ k1e (j_ eN (j_ eN1 eT))))) ?_;exact Qae rfl rfl ⟨rfl,rfl⟩)
 rw[if_neg k1]
 rw[decide_eq_false k1]at k1e
 by_cases k2:j.k=2
 ·rw[if_pos k2]
  rw[decide_eq_true k2]at k2e
  generalize Qbd j=b1 at*
  generalize decide (j.t= [])=b3 at*
  by_cases h2: -9007199254740991≤j.n
  ·have f2:(-9007199254740991≤j.n)=True:=eq_true h2
   rw[decide_eq_true h2]
   by_cases h4:j.n≤9007199254740991
   ·have f4:(j.n≤9007199254740991)=True:=eq_true h4
    rw[decide_eq_true h4]
    cases b1<;>cases b3<;>(refine w_r (j_ gK (j_ k0e (j_ k1e (j_ k2e (j_ f2 (j_ f4 eT)))))) ?_;exact Qae rfl rfl ⟨rfl,rfl⟩)
   ·have f4:(j.n≤9007199254740991)=False:=eq_false h4
    rw[decide_eq_false h4]
    cases b1<;>cases b3<;>(refine w_r (j_ gK (j_ k0e (j_ k1e (j_ k2e (j_ f2 (j_ f4 eT)))))) ?_;exact Qae rfl rfl ⟨rfl,rfl⟩)
  ·have f2:(-9007199254740991≤j.n)=False:=eq_false h2
   rw[decide_eq_false h2]
   generalize decide (j.n≤9007199254740991)=b4
   cases b1<;>cases b3<;>cases b4<;>(refine w_r (j_ gK (j_ k0e (j_ k1e (j_ k2e (j_ f2 eT))))) ?_;exact Qae rfl rfl ⟨rfl,rfl⟩)
 rw[if_neg k2]
 rw[decide_eq_false k2]at k2e
 by_cases k3:j.k=3
 ·rw[if_pos k3]
  rw[decide_eq_true k3]at k3e
  have he:=Qlt H.length K j.t s1
  generalize Qbd j=b1 at*
  generalize decide (j.n=0)=b2 at*
  generalize vB j.t=b3 at*
  (iterate 15 refine w_s (j_ gK (j_ k0e (j_ k1e (j_ k2e k3e)))) ?_)
  cases b1<;>cases b2<;>cases b3<;>(refine w_1 he (j_ gK eN) ?_;refine w_r trivial ?_;exact Qae rfl rfl ⟨rfl,rfl⟩)
 rw[if_neg k3]
 rw[decide_eq_false k3]at k3e
 by_cases k4:j.k=4
 ·rw[if_pos k4]
  rw[decide_eq_true k4]at k4e
  have eE4:((j.ks.length:Int)==0)=decide (j.ks.length=0):=by rw[eq0];exact decide_eq_decide.2 (by omega)
  generalize decide (j.ks.length=0)=b1 at*
  generalize decide (j.n=0)=b2 at*
  generalize decide (j.t= [])=b3 at*
  cases b1<;>cases b2<;>cases b3<;>(refine w_r (j_ gK (j_ k0e (j_ k1e (j_ k2e (j_ k3e (j_ k4e (j_ eN (j_ eT (j_ eE4 (@List.length_map.{0,0})))))))))) ?_;exact Qae rfl rfl ⟨rfl,rfl⟩)
 rw[if_neg k4]
 rw[decide_eq_false k4]at k4e
 by_cases k5:j.k=5
 ·rw[if_pos k5]
  rw[decide_eq_true k5]at k5e
  have he:=named_ev H.length K j.ks s2 s4
  have eE5:((j.ks.length:Int)==(j.l.length:Int))=decide (j.ks.length=j.l.length):=by rw[eq0];exact decide_eq_decide.2 (by omega)
  generalize decide (j.ks.length=j.l.length)=b1 at*
  generalize decide (j.n=0)=b2 at*
  generalize decide (j.t= [])=b3 at*
  generalize QbE j.ks=b4 at*
  (iterate 21 refine w_s (j_ gK (j_ k0e (j_ k1e (j_ k2e (j_ k3e (j_ k4e k5e)))))) ?_)
  cases b1<;>cases b2<;>cases b3<;>cases b4<;>(refine w_1 he (j_ gK (j_ eN (j_ eT (j_ eE5 (@List.length_map.{0,0}))))) ?_;refine w_r trivial ?_;exact Qae rfl rfl ⟨rfl,rfl⟩)
 rw[if_neg k5]
 rw[decide_eq_false k5]at k5e
 refine w_r (j_ gK (j_ k0e (j_ k1e (j_ k2e (j_ k3e (j_ k4e k5e)))))) ?_
 exact Qae rfl rfl ⟨rfl,rfl⟩
def IdxQ(l:List J)(g:J→Bool)(H:Qaa)(v:AV)(H':Qaa):Prop:=(∃r:Int,v=intD r∧decide (r≥0)=l.any g)∧H'=H
theorem idxf_ev(lim:Nat)(K:Qaa)(l:List J)(r:Nat)(g:J→Bool)(hl:l.length≤100000000000)(hc:∀y∈l,Ev (QaF code Qap) 54 K.length [.d y.d,.ptr r 0] K (boolD (g y)) K):
  Go.Abs.Fn (QaF code Qap) 69 lim [.d (jsD l),.func (.func 54) [.ptr r 0]] K (IdxQ l g K):=by
 refine Qbj (pn rfl) rfl (show code 69=some c69 from rfl) rfl ?_;simp only[List.length_cons,List.length_nil,List.cons_append,List.nil_append,simprocAttr]
 refine w_r (@List.length_map.{0,0}) ?_
 refine Qki (fun k st=>∃i:Nat,i≤l.length∧k=l.length-i∧(l.take i).any g=false∧∃x:Nat→AV,st=⟨[.d (jsD l),.func (.func 54) [.ptr r 0],x 2,x 3,intD 0,intD l.length,intD i,x 7,x 8],K⟩) ?_ _ _ ⟨0,Nat.zero_le _,rfl,rfl,Qam _ _ _ rfl⟩
 rintro k _ ⟨i,hi,rfl,ha,x,rfl⟩
 by_cases t0:i<l.length
 ·have f1:((i:Int)<(l.length:Int))=True:=eq_true (by omega)
  have w1:IntKind.i64.wrap ((i:Int)+1)=((i+1:Nat):Int):=Qef (by omega)
  obtain⟨y,hy⟩:∃y,l[i]? =some y:=⟨_,List.getElem?_eq_getElem t0⟩
  have hyd:=jd y
  have hst:=any_cut hy g
  rw[ha,Bool.false_or]at hst
  have he:=hc y (List.mem_of_getElem? hy)
  simp only[hyd]at he
  refine w_r f1 ?_
  refine QcT ?_
  apply Qfv 2;(focus(intro _;simp only[zz,simprocAttr,hy,hyd,List.length_map];(first|done|exact rfl)));simp only[List.drop_succ_cons,List.drop_zero]
  refine WO_callV (f:=54) (caps:= [.ptr r 0]) rfl ?_
  simp only[evx,List.map_cons,List.map_nil,List.contains,List.elem,List.getD_cons_succ,List.getD_cons_zero,reduceIte,Bool.false_eq_true,AV.unf,List.cons_append,List.nil_append]
  refine Ev.fn he ?_
  (apply QfO;(focus(intro _;simp only[zz,simprocAttr];(first|done|with_reducible exact rfl))))<;>(try simp only[zp,simprocAttr])
  cases hv:g y with
  |true=>
   refine w_r trivial ?_
   exact Qae rfl rfl ⟨⟨_,rfl,by rw[any_yes hy hv];exact decide_eq_true (by omega)⟩,rfl⟩
  |false=>
   rw[hv]at hst
   refine w_r w1 ?_
   exact⟨l.length-(i+1),by omega,i+1,t0,rfl,hst,Qam _ _ _ rfl⟩
 ·obtain rfl:i=l.length:=by omega
  have f1:((l.length:Int)<(l.length:Int))=False:=eq_false (by omega)
  rw[List.take_length]at ha
  refine w_r f1 ?_
  exact Qae rfl rfl ⟨⟨_,rfl,by rw[ha];rfl⟩,rfl⟩
theorem has_ev(lim:Nat)(K:Qaa)(l:List J)(r:Nat)(g:J→Bool)(hl:l.length≤100000000000)(hc:∀y∈l,Ev (QaF code Qap) 54 K.length [.d y.d,.ptr r 0] K (boolD (g y)) K):
  Ev (QaF code Qap) 53 lim [.d (jsD l),.func (.func 54) [.ptr r 0]] K (boolD (l.any g)) K:=by
 refine Fn.ev ?_
 refine Qbj (pn rfl) rfl (show code 53=some c53 from rfl) rfl ?_;simp only[List.length_cons,List.length_nil,List.cons_append,List.nil_append,simprocAttr]
 obtain⟨_,K',he,⟨q,rfl,hq⟩,e'⟩:=Ql9 (idxf_ev K.length K l r g hl hc)
 rw[e']at he
 (iterate 3 refine w_s trivial ?_)
 refine w_1 he hq ?_
 refine w_r trivial ?_
 exact Qae rfl rfl ⟨rfl,rfl⟩
theorem not_any(l:List J)(f:J→Bool):(!(l.any fun x=> !f x))=l.all f:=by
 induction l with
 |nil=>rfl
 |cons a l ih=>rw[List.any_cons,List.all_cons,←ih];cases f a<;>simp
mutual
theorem Ql4:∀(n:Nat) (lim:Nat) (H:Qaa) (j:J),n≤1000→wt j≤100000000000→Ev (QaF code Qap) 34 lim [.d j.d,intD n] H (boolD (goodB n j)) H
 |0,lim,H,j,_,_=>by
  refine Fn.ev ?_
  refine Qbj (pn rfl) rfl (show code 34=some c34 from rfl) rfl ?_;simp only[List.length_cons,List.length_nil,List.cons_append,List.nil_append,simprocAttr]
  have hjd:=jd j
  obtain⟨J',hJ⟩:∃J',H++ [AObj.cells (jC j)]=J':=⟨_,rfl⟩
  obtain⟨K,hK⟩:∃K,J'++ [AObj.cells [intD (0:Nat)]]=K:=⟨_,rfl⟩
  have gK2:K[J'.length]? =some (.cells [.d (.int .i64 (0:Nat))]):=by rw[←hK];exact Qbr _ _
  have f0:(((0:Nat):Int)>0)=False:=eq_false (by omega)
  (iterate 2 refine w_s (j_ hjd (j_ hJ hK)) ?_)
  refine w_r (j_ gK2 f0) ?_
  exact Qae rfl rfl ⟨rfl,rfl⟩
 |n+1,lim,H,j,hn,hj=>by
  refine Fn.ev ?_
  refine Qbj (pn rfl) rfl (show code 34=some c34 from rfl) rfl ?_;simp only[List.length_cons,List.length_nil,List.cons_append,List.nil_append,simprocAttr]
  have hjd:=jd j
  obtain⟨J',hJ⟩:∃J',H++ [AObj.cells (jC j)]=J':=⟨_,rfl⟩
  have gJ:J'[H.length]? =some (.cells (jC j)):=by rw[←hJ];exact Qbr _ _
  obtain⟨K,hK⟩:∃K,J'++ [AObj.cells [intD (n+1:Nat)]]=K:=⟨_,rfl⟩
  have gK:K[H.length]? =some (.cells (jC j)):=by rw[←hK];exact Ql5 _ gJ
  have gK2:K[J'.length]? =some (.cells [.d (.int .i64 (n+1:Nat))]):=by rw[←hK];exact Qbr _ _
  have f0:(((n+1:Nat):Int)>0)=True:=eq_true (by omega)
  have he:=shape_ev H.length K j (sh_of hj)
  simp only[hjd]at he
  have hr:goodB (n+1) j=(Qas j&&j.l.all (goodB n)):=rfl
  have hall:=not_any j.l (goodB n)
  have hg:=has_ev H.length K j.l J'.length (fun x=> !goodB n x) (sh_of hj).2.2.1 fun y hy=>by
   have hd':wt y≤100000000000:=by have:=Qlo hy;omega
   exact inner_ev n K.length K y J'.length (by omega) hd' gK2
  (iterate 2 refine w_s (j_ hjd (j_ hJ hK)) ?_)
  (iterate 1 refine w_s trivial ?_)
  rw[hr]
  cases hs:Qas j with
  |false=>
   rw[hs]at he
   refine w_1 he (j_ gK (j_ gK2 f0)) ?_
   refine w_r trivial ?_
   exact Qae rfl rfl ⟨rfl,rfl⟩
  |true=>
   rw[hs]at he
   rw[←hall]
   generalize(j.l.any fun x=> !goodB n x)=b at*
   refine w_2 he hg (j_ gK (j_ gK2 f0)) ?_
   refine w_r trivial ?_
   exact Qae rfl rfl ⟨rfl,rfl⟩
theorem inner_ev:∀(n:Nat) (lim:Nat) (H:Qaa) (j:J) (r:Nat),n≤1000→wt j≤100000000000→H[r]? =some (.cells [.d (.int .i64 (n+1:Nat))])→Ev (QaF code Qap) 54 lim [.d j.d,.ptr r 0] H (boolD (!goodB n j)) H
 |n,lim,H,j,r,hn,hj,gr=>by
  refine Fn.ev ?_
  refine Qbj (pn rfl) rfl (show code 54=some c54 from rfl) rfl ?_;simp only[List.length_cons,List.length_nil,List.cons_append,List.nil_append,simprocAttr]
  have hjd:=jd j
  obtain⟨K,hK⟩:∃K,H++ [AObj.cells (jC j)]=K:=⟨_,rfl⟩
  have gK:K[H.length]? =some (.cells (jC j)):=by rw[←hK];exact Qbr _ _
  have gK2:K[r]? =some (.cells [.d (.int .i64 (n+1:Nat))]):=by rw[←hK];exact Ql5 _ gr
  have w2:IntKind.i64.wrap (((n+1:Nat):Int)-1)=(n:Int):=by rw[w64 (by omega) (by omega)];omega
  have he:=Ql4 n H.length K j hn hj
  simp only[hjd]at he
  (iterate 2 refine w_s (j_ hjd hK) ?_)
  (iterate 1 refine w_s trivial ?_)
  refine w_1 he (j_ gK (j_ gK2 w2)) ?_
  refine w_r trivial ?_
  exact Qae rfl rfl ⟨rfl,rfl⟩
end
theorem Good_ev(lim:Nat)(H:Qaa)(j:J)(hj:wt j≤100000000000):Ev (QaF code Qap) 20 lim [.d j.d] H (boolD (goodB 12 j)) H:=by
 refine Fn.ev ?_
 refine Qbj (pn rfl) rfl (show code 20=some c20 from rfl) rfl ?_;simp only[List.length_cons,List.length_nil,List.cons_append,List.nil_append,simprocAttr]
 have hjd:=jd j
 obtain⟨K,hK⟩:∃K,H++ [AObj.cells (jC j)]=K:=⟨_,rfl⟩
 have gK:K[H.length]? =some (.cells (jC j)):=by rw[←hK];exact Qbr _ _
 have he:Ev (QaF code Qap) 34 H.length [.d j.d,intD 12] K (boolD (goodB 12 j)) K:=Ql4 12 H.length K j (by omega) hj
 simp only[hjd]at he
 (iterate 2 refine w_s (j_ hjd hK) ?_)
 (iterate 1 refine w_s trivial ?_)
 refine w_1 he gK ?_
 refine w_r trivial ?_
 exact Qae rfl rfl ⟨rfl,rfl⟩
def orderS(j:J):J:=if goodB 12 j then Qah j else J.zero
def encV:Except Nat Tx→AV
 |.ok e=> .tuple [.d (.slice (e.map byteD)),intD 0]
 |.error c=> .tuple [.d (.slice []),intD c]
theorem toB_ne{s:Tx}(h:s≠ []):toB s= .fslice (s.map byteD):=by
 cases s with
 |nil=>exact absurd rfl h
 |cons c s=>rfl
abbrev bF(b:Tx):AV:= .fslice (b.map byteD)
theorem bool_ev(lim:Nat)(H:Qaa)(b:Tx)(t:Bool)(hb:b.length≤10000000000000):Ev (QaF code Qap) 64 lim [bF b,boolD t] H (bF (b++(if t=true then [116,114,117,101]else [102,97,108,115,101]))) H:=by
 refine Fn.ev ?_
 refine Qbj (pn rfl) rfl (show code 64=some c64 from rfl) rfl ?_;simp only[List.length_cons,List.length_nil,List.cons_append,List.nil_append,simprocAttr]
 have hz:=QaE b
 have n1:(b.length+(0+1+1+1+1))*2≤70368744177664:=by omega
 have n2:(b.length+(0+1+1+1+1+1))*2≤70368744177664:=by omega
 cases t with
 |true=>
  refine w_r (j_ hz (j_ n1 (@List.length_map.{0,0}))) ?_
  exact Qae (vs:= [bF (b++ [116,114,117,101])]) (by simp only[Qcg,zz,simprocAttr];simp[bF]) rfl ⟨rfl,rfl⟩
 |false=>
  refine w_r (j_ hz (j_ n2 (@List.length_map.{0,0}))) ?_
  exact Qae (vs:= [bF (b++ [102,97,108,115,101])]) (by simp only[Qcg,zz,simprocAttr];simp[bF]) rfl ⟨rfl,rfl⟩
theorem Qmj(lim:Nat)(H:Qaa)(b:Tx)(t:Bool)(hb:b.length≤10000000000000):Ev (QaF code Qap) 45 lim [bF b,boolD t] H (bF (b++(if t=true then [116,114,117,101]else [102,97,108,115,101]))) H:=by
 refine Fn.ev ?_
 refine Qbj (pn rfl) rfl (show code 45=some c45 from rfl) rfl ?_;simp only[List.length_cons,List.length_nil,List.cons_append,List.nil_append,simprocAttr]
 have h:=bool_ev H.length H b t hb
 refine w_r trivial ?_
 refine w_1 h trivial ?_
 refine w_r trivial ?_
 exact Qae (vs:= [bF (b++_)]) rfl rfl ⟨rfl,rfl⟩
theorem l10_mul(x:Nat)(h:x<1000000):Qa7 .mul .i64 (x:Int) 78913=some (.int .i64 ((x*78913:Nat):Int)):=by
 simp only[Qa7]
 rw[show((x:Int)*78913)=((x*78913:Nat):Int) by omega,w64n _ (by omega)]
theorem l10_shr(x:Nat):Qbz .shr .i64 ((x*78913:Nat):Int) 18=some (.int .i64 ((x*78913/262144:Nat):Int)):=by
 unfold Qbz
 rw[if_neg (by decide)]
 show some (D.int .i64 (Int.fdiv ((x*78913:Nat):Int) (2^18)))=_
 rw[Int.fdiv_eq_ediv_of_nonneg _ (by decide)]
 rfl
theorem l10_ev(lim:Nat)(H:Qaa)(x:Nat)(h:x≤64):Ev (QaF code Qap) 101 lim [intD x] H (intD ((Lib.l10 x:Nat):Int)) H:=by
 refine Fn.ev ?_
 refine Qbj (pn rfl) rfl (show code 101=some c101 from rfl) rfl ?_;simp only[List.length_cons,List.length_nil,List.cons_append,List.nil_append,simprocAttr]
 have f1:=l10_mul x (by omega)
 unfold Lib.l10
 refine w_r (j_ f1 @l10_shr) ?_
 exact Qae rfl rfl ⟨rfl,rfl⟩
theorem b2_ev(lim:Nat)(H:Qaa)(t:Bool):Ev (QaF code Qap) 102 lim [boolD t] H (intD (if t=true then 1 else 0)) H:=by
 refine Fn.ev ?_
 refine Qbj (pn rfl) rfl (show code 102=some c102 from rfl) rfl ?_;simp only[List.length_cons,List.length_nil,List.cons_append,List.nil_append,simprocAttr]
 cases t<;>(refine w_r trivial ?_;exact Qae rfl rfl ⟨rfl,rfl⟩)
theorem bitLen_le{u:Nat}(h:u<18446744073709551616):Lib.bitLen u≤64:=Lib.bitLen_le u 64 (Nat.le_refl _) h
theorem pow_at{i:Nat}(h:i<20):tab3[i]? =some (.int .u64 ((10^i:Nat):Int)):=by
 unfold tab3
 rw[List.getElem?_map,List.getElem?_range h];rfl
theorem many_ev(lim:Nat)(H:Qaa)(u:Nat)(h1:1≤u)(h2:u<18446744073709551616):Ev (QaF code Qap) 93 lim [.d (.int .u64 u)] H (intD (Lib.nDigits u)) H:=by
 refine Fn.ev ?_
 refine Qbj (pn rfl) rfl (show code 93=some c93 from rfl) rfl ?_;simp only[List.length_cons,List.length_nil,List.cons_append,List.nil_append,simprocAttr]
 have hq:=Lib.numDigits_eq u h1 h2
 have hb:=bitLen_le h2
 have a1:Ev (QaF code Qap) 91 H.length [.d (.int .u64 u)] H (intD ((Lib.bitLen u:Nat):Int)) H:=QcO (F:=QhY) POK.len (by
  unfold QhY
  simp only
  rw[if_pos (by omega)];rfl)
 have a2:=l10_ev H.length H (Lib.bitLen u) hb
 have hp:=pow_at (i:=Lib.l10 (Lib.bitLen u)) (by omega)
 generalize Lib.l10 (Lib.bitLen u)=x at*
 obtain⟨hq,hx⟩:=hq
 rw[←hq]
 have hx':=hx
 have a3:=b2_ev H.length H (decide (10^x≤u))
 have f1:decide ((u:Int)≥((10^x:Nat):Int))=decide (10^x≤u):=decide_eq_decide.mpr (by omega)
 refine w_r trivial ?_
 refine w_2 a1 a2 trivial ?_
 have hi:(0:Int)≤(x:Int)∧(x:Int)<(20:Int):=by omega
 have w1:IntKind.i64.wrap ((x:Int)+(if decide (10^x≤u)=true then 1 else 0))=((x+(if 10^x≤u then 1 else 0):Nat):Int):=by
  rw[w64 (by split<;>omega) (by split<;>omega)]
  by_cases h:10^x≤u<;>simp[h]
 refine W_sq ?_
 have hp':(List.drop (x*1) tab3)[0]? =some (.int .u64 ((10^x:Nat):Int)):=by rw[Nat.mul_one,List.getElem?_drop];exact hp
 clear hp hq
 generalize 10^x=p at*
 have f2:((u:Int)≥(p:Int))=(p≤u):=propext (by omega)
 by_cases hpu:p≤u
 ·have f3:((u:Int)≥(p:Int))=True:=eq_true (by omega)
  simp only[hpu,decide_true,if_true]at a3 w1⊢
  refine w_1 a3 (j_ hp' (j_ hi (j_ f3 w1))) ?_
  refine w_r trivial ?_
  exact Qae rfl rfl ⟨rfl,rfl⟩
 ·have f3:((u:Int)≥(p:Int))=False:=eq_false (by omega)
  simp only[hpu,decide_false,Bool.false_eq_true,if_false]at a3 w1⊢
  refine w_1 a3 (j_ hp' (j_ hi (j_ f3 w1))) ?_
  refine w_r trivial ?_
  exact Qae rfl rfl ⟨rfl,rfl⟩
theorem QnJ{n:Nat}(h:n<100):QdD n=Lib.decDigits n:=by
 unfold QdD
 split
 ·rename_i h1;rw[Lib.decDigits_one h1]
 ·rename_i h1;rw[Lib.decDigits_two h1 h]
theorem Qnv(lim:Nat)(H:Qaa)(b:Tx)(u:Nat)(h2:u<18446744073709551616)(hb:b.length≤10000000000000):Ev (QaF code Qap) 77 lim [bF b,.d (.int .u64 u),.d (.int .i64 10)] H (bF (b++Lib.decDigits u)) H:=by
 refine Fn.ev ?_
 refine Qbj (pn rfl) rfl (show code 77=some c77 from rfl) rfl ?_;simp only[List.length_cons,List.length_nil,List.cons_append,List.nil_append,simprocAttr]
 have hz:=QaE b
 by_cases hs:u<100
 ·have f1:((u:Int)<100)=True:=eq_true (by omega)
  have w1:IntKind.i64.wrap (u:Int)=(u:Int):=w64 (by omega) (by omega)
  have hl:(QdD u).length≤2:=by unfold QdD;split<;>simp
  have a1:Ev (QaF code Qap) 92 H.length [.d (.int .i64 u)] H (.d (.str (QdD u))) H:=QcO (F:=QhD) POK.small (by
   unfold QhD
   simp only
   rw[if_pos (by omega)];simp)
  have n1:(b.length+(QdD u).length)*2≤70368744177664:=by omega
  rw[←QnJ hs]
  generalize QdD u=t at*
  refine w_r f1 ?_
  have hz2:=QaE t
  refine w_1 a1 (j_ w1 (j_ hz (j_ hz2 (j_ n1 (@List.length_map.{0,0}))))) ?_
  refine w_r trivial ?_
  exact Qae (vs:= [bF (b++t)]) (by simp only[Qcg,zz,simprocAttr];simp[bF]) rfl ⟨rfl,rfl⟩
 ·have f1:((u:Int)<100)=False:=eq_false (by omega)
  (iterate 12 refine w_s f1 ?_)
  generalize hZ:([AV.d (D.int IntKind.u8 0),AV.d (D.int IntKind.u8 0),AV.d (D.int IntKind.u8 0),AV.d (D.int IntKind.u8 0),AV.d (D.int IntKind.u8 0),AV.d (D.int IntKind.u8 0),AV.d (D.int IntKind.u8 0),AV.d (D.int IntKind.u8 0),AV.d (D.int IntKind.u8 0),AV.d (D.int IntKind.u8 0),AV.d (D.int IntKind.u8 0),AV.d (D.int IntKind.u8 0),AV.d (D.int IntKind.u8 0),AV.d (D.int IntKind.u8 0),AV.d (D.int IntKind.u8 0),AV.d (D.int IntKind.u8 0),AV.d (D.int IntKind.u8 0),AV.d (D.int IntKind.u8 0),AV.d (D.int IntKind.u8 0),AV.d (D.int IntKind.u8 0),AV.d (D.int IntKind.u8 0),AV.d (D.int IntKind.u8 0),AV.d (D.int IntKind.u8 0),AV.d (D.int IntKind.u8 0)]:List AV)=Z
  have hZl:Z.length=24:=by rw[←hZ];rfl
  have hZr:Z=List.replicate 24 (AV.d (.int .u8 0)):=by rw[←hZ];rfl
  clear hZ
  have hn:Lib.nDigits u≤20:=Qd2 19 u (by omega)
  have hdl:=Lib.decDigits_length u
  have a1:=many_ev H.length (H++ [.cells Z]) u (by omega) h2
  have g1:(H++ [AObj.cells Z])[H.length]? =some (.cells Z):=by simp
  generalize hN:Lib.nDigits u=N at*
  generalize hW:splice Z 0 ((Lib.decDigits u).map fun b=>AV.d (byteD b))=W
  have hO:(H++ [AObj.cells Z]).set H.length (.cells W)=H++ [.cells W]:=by simp
  have a2:Ev (QaF code Qap) 94 H.length [.oslice H.length 0 N 24 1,.d (.int .u64 u)] (H++ [.cells Z]) (.tuple []) (H++ [.cells W]):=QcO (F:=fbF) POK.fb (by
   unfold fbF
   simp only[g1]
   rw[if_pos (by
    refine⟨Nat.le_refl _,by omega,by omega,by simp[hN],by omega,by omega, ?_⟩
    rw[hZr,List.take_replicate,Nat.min_eq_left (by omega)]
    exact AV.beqs_self _),Int.toNat_natCast,hW,hO])
  generalize hX:Lib.decDigits u=X at*
  have hWl:W.length=24:=by rw[←hW];simp[splice,hZl];omega
  have m1:QfN (H++ [.cells Z]) H.length=24:=by simp[QfN,hZl]
  have m2:QfN (H++ [.cells W]) H.length=24:=by simp[QfN,hWl]
  have g2:(H++ [AObj.cells W])[H.length]? =some (.cells W):=by simp
  have hc:chunks 1 false N W=some (X.map byteD):=by rw[←hW,←hdl];have:=Qj8 X (Z.drop X.length);rw[List.map_map]at this;simpa[splice,Function.comp_def]using this
  have m3:((N:Int)-0).toNat=N:=by omega
  have l1:N*1≤W.length:=by omega
  have hz2:=QaE X
  have n1:(b.length+X.length)*2≤70368744177664:=by omega
  have q1:(0:Int)≤(N:Int)∧(N:Int)≤24:=by omega
  refine W_sq ?_
  refine w_1 a1 trivial ?_
  refine W_sq ?_
  refine w_1 a2 (j_ m1 (j_ q1 m3)) ?_
  refine W_sq ?_
  (apply W_rg;focus(intro k;simp(maxSteps:=100000000) only[zz,zd,simprocAttr,m2,m3,l1,q1,g2,hc,hz,hz2,n1,List.length_map];(first|done|with_reducible exact rfl)))<;>(try simp only[zp,simprocAttr])
  refine w_r trivial ?_
  exact Qae (vs:= [bF (b++X)]) (by simp only[Qcg,zz,simprocAttr];simp[bF]) rfl ⟨rfl,rfl⟩
theorem neg_u64(n:Int)(h1: -9223372036854775808≤n)(h:n<0):IntKind.u64.wrap (0-IntKind.u64.wrap n)=((n.natAbs:Nat):Int):=by
 simp only[IntKind.wrap,IntKind.bits,IntKind.signed]
 simp
 omega
theorem int_ev(lim:Nat)(H:Qaa)(b:Tx)(n:Int)(h1: -9007199254740991≤n)(h2:n≤9007199254740991)(hb:b.length+1≤10000000000000):Ev (QaF code Qap) 65 lim [bF b,.d (.int .i64 n),.d (.int .i64 10)] H (bF (b++Lib.itoa n)) H:=by
 refine Fn.ev ?_
 refine Qbj (pn rfl) rfl (show code 65=some c65 from rfl) rfl ?_;simp only[List.length_cons,List.length_nil,List.cons_append,List.nil_append,simprocAttr]
 have hz:=QaE b
 unfold Lib.itoa
 by_cases h:n<0
 ·have f1:(n<0)=True:=eq_true h
  have w1:=neg_u64 n (by omega) h
  have n1:(b.length+(0+1))*2≤70368744177664:=by omega
  have a1:=Qnv H.length H (b++ [45]) n.natAbs (by omega) (by simp;omega)
  have ee:bF (b++ [45])= .fslice (b.map byteD++ [D.int .u8 45]):=by simp[bF,byteD]
  rw[ee]at a1
  rw[if_pos h]
  refine w_r (j_ f1 (j_ w1 (j_ hz (j_ n1 (@List.length_map.{0,0}))))) ?_
  refine w_1 a1 trivial ?_
  refine w_r trivial ?_
  exact Qae (vs:= [bF (b++ [45]++Lib.decDigits n.natAbs)]) rfl rfl ⟨by simp,rfl⟩
 ·have f1:(n<0)=False:=eq_false h
  have w1:IntKind.u64.wrap n=((n.toNat:Nat):Int):=by
   simp only[IntKind.wrap,IntKind.bits,IntKind.signed];simp;omega
  have a1:=Qnv H.length H b n.toNat (by omega) (by omega)
  rw[if_neg h]
  refine w_r (j_ f1 w1) ?_
  refine w_1 a1 trivial ?_
  refine w_r trivial ?_
  exact Qae (vs:= [bF (b++_)]) rfl rfl ⟨rfl,rfl⟩
theorem intA_ev(lim:Nat)(H:Qaa)(b:Tx)(n:Int)(h1: -9007199254740991≤n)(h2:n≤9007199254740991)(hb:b.length+1≤10000000000000):Ev (QaF code Qap) 46 lim [bF b,.d (.int .i64 n),.d (.int .i64 10)] H (bF (b++Lib.itoa n)) H:=by
 refine Fn.ev ?_
 refine Qbj (pn rfl) rfl (show code 46=some c46 from rfl) rfl ?_;simp only[List.length_cons,List.length_nil,List.cons_append,List.nil_append,simprocAttr]
 have h:=int_ev H.length H b n h1 h2 hb
 refine w_r trivial ?_
 refine w_1 h trivial ?_
 refine w_r trivial ?_
 exact Qae (vs:= [bF (b++_)]) rfl rfl ⟨rfl,rfl⟩
theorem shr4(c:Nat):Qbz .shr .u8 (c:Int) 4=some (.int .u8 ((c/16:Nat):Int)):=by
 unfold Qbz
 rw[if_neg (by decide)]
 show some (D.int .u8 (Int.fdiv (c:Int) (2^4)))=_
 rw[Int.fdiv_eq_ediv_of_nonneg _ (by decide)]
 rfl
theorem and15u(b:Nat)(hb:b<256):Qa7 .and .u8 (b:Int) 15=some (.int .u8 ((b % 16:Nat):Int)):=by
 have:=Qnj .u8 b 15
 rw[show IntKind.u8.bits=8 from rfl,Nat.mod_eq_of_lt (a:=b) (show b<2^8 by omega),Nat.mod_eq_of_lt (a:=15) (show 15<2^8 by omega),Nat.and_two_pow_sub_one_eq_mod b 4,u8w _ (by omega)]at this
 exact this
set_option maxHeartbeats 1000000 in
theorem Qiw(lim:Nat)(H:Qaa)(b s:Tx)(hb:b.length≤10000000000000)(hs:s.length≤100000000000):Ev (QaF code Qap) 47 lim [bF b,.d (.str s)] H (bF (b++QaG s)) H:=by
 refine Fn.ev ?_
 refine Qbj (pn rfl) rfl (show code 47=some c47 from rfl) rfl ?_;simp only[List.length_cons,List.length_nil,List.cons_append,List.nil_append,simprocAttr]
 have hz:=QaE b
 have n0:(b.length+(0+1))*2≤70368744177664:=by omega
 refine w_r (j_ hz (j_ n0 (@List.length_map.{0,0}))) ?_
 refine Qki (fun k st=>∃(i:Nat) (T:List D),i≤s.length∧k=s.length-i∧T=(b++34::(s.take i).flatMap QbP).map byteD∧∃x:Nat→AV,st=⟨[.fslice T,.d (.str s),x 2,x 3,x 4,x 5,x 6,x 7,x 8,x 9,.fslice [],intD s.length,intD i,x 13,x 14,x 15,x 16,x 17],H⟩) ?_ _ _ ⟨0,_,Nat.zero_le _,rfl,by simp[byteD],Qam _ _ _ rfl⟩
 rintro k _ ⟨i,T,hi,rfl,hT,x,rfl⟩
 have hfl:=QiP (s.take i)
 have htl:(s.take i).length≤100000000000:=by simp;omega
 have hTz:Qbh 1 T=true:=by rw[hT];exact QaE _
 have hTl:T.length≤11000000000000:=by rw[hT,List.length_map,List.length_append,List.length_cons];omega
 by_cases t0:i<s.length
 ·have f1:((i:Int)<(s.length:Int))=True:=eq_true (by omega)
  have w1:IntKind.i64.wrap ((i:Int)+1)=((i+1:Nat):Int):=Qef (by omega)
  obtain⟨c,hc⟩:∃c,s[i]? =some c:=⟨_,List.getElem?_eq_getElem t0⟩
  have hcl:=c.toNat_lt
  have hx:=QoJ hc
  have next:∀ {st:St},(∃x:Nat→AV,st=⟨[.fslice (T++(QbP c).map byteD),.d (.str s),x 2,x 3,x 4,x 5,x 6,x 7,x 8,x 9,.fslice [],intD s.length,intD ((i+1:Nat):Int),x 13,x 14,x 15,x 16,x 17],H⟩)→
    ∃m,m<s.length-i∧∃(i:Nat) (T:List D),i≤s.length∧m=s.length-i∧T=(b++34::(s.take i).flatMap QbP).map byteD∧∃x:Nat→AV,st=⟨[.fslice T,.d (.str s),x 2,x 3,x 4,x 5,x 6,x 7,x 8,x 9,.fslice [],intD s.length,intD i,x 13,x 14,x 15,x 16,x 17],H⟩:=
   fun h=>⟨s.length-(i+1),by omega,i+1,_,t0,rfl,by rw[hT,←hx];simp,h⟩
  have n1:(T.length+(0+1))*2≤70368744177664:=by omega
  have n2:(T.length+(0+1+1))*2≤70368744177664:=by omega
  have n6:(T.length+(0+1+1+1+1+1+1))*2≤70368744177664:=by omega
  clear hT hfl htl hx
  by_cases k1:c=34
  ·have c1:=Qhw (n:=34) k1 rfl
   have e:QbP c= [92,c]:=by unfold QbP;rw[if_pos (.inl k1)]
   rw[e]at next
   refine w_r (j_ f1 (j_ hc (j_ @byteD.eq_1 (j_ hTz (j_ w1 (j_ c1 n2)))))) ?_
   exact next (Qam _ _ _ rfl)
  have c1:=Qhn (n:=34) k1 rfl
  by_cases k2:c=92
  ·have c2:=Qhw (n:=92) k2 rfl
   have e:QbP c= [92,c]:=by unfold QbP;rw[if_pos (.inr k2)]
   rw[e]at next
   refine w_r (j_ f1 (j_ hc (j_ @byteD.eq_1 (j_ hTz (j_ w1 (j_ c1 (j_ c2 n2))))))) ?_
   exact next (Qam _ _ _ rfl)
  have c2:=Qhn (n:=92) k2 rfl
  have hne:¬(c=34∨c=92):=fun h=>h.elim k1 k2
  by_cases k3:c=8
  ·have c3:=Qhw (n:=8) k3 rfl
   have e:QbP c= [92,98]:=by unfold QbP;rw[if_neg hne,if_pos k3]
   rw[e]at next
   refine w_r (j_ f1 (j_ hc (j_ @byteD.eq_1 (j_ hTz (j_ w1 (j_ c1 (j_ c2 (j_ c3 n2)))))))) ?_
   exact next (Qam _ _ _ rfl)
  have c3:=Qhn (n:=8) k3 rfl
  by_cases k4:c=9
  ·have c4:=Qhw (n:=9) k4 rfl
   have e:QbP c= [92,116]:=by unfold QbP;rw[if_neg hne,if_neg k3,if_pos k4]
   rw[e]at next
   refine w_r (j_ f1 (j_ hc (j_ @byteD.eq_1 (j_ hTz (j_ w1 (j_ c1 (j_ c2 (j_ c3 (j_ c4 n2))))))))) ?_
   exact next (Qam _ _ _ rfl)
  have c4:=Qhn (n:=9) k4 rfl
  by_cases k5:c=10
  ·have c5:=Qhw (n:=10) k5 rfl
   have e:QbP c= [92,110]:=by unfold QbP;rw[if_neg hne,if_neg k3,if_neg k4,if_pos k5]
   rw[e]at next
   refine w_r (j_ f1 (j_ hc (j_ @byteD.eq_1 (j_ hTz (j_ w1 (j_ c1 (j_ c2 (j_ c3 (j_ c4 (j_ c5 n2)))))))))) ?_
   exact next (Qam _ _ _ rfl)
  have c5:=Qhn (n:=10) k5 rfl
  by_cases k6:c=12
  ·have c6:=Qhw (n:=12) k6 rfl
   have e:QbP c= [92,102]:=by unfold QbP;rw[if_neg hne,if_neg k3,if_neg k4,if_neg k5,if_pos k6]
   rw[e]at next
   refine w_r (j_ f1 (j_ hc (j_ @byteD.eq_1 (j_ hTz (j_ w1 (j_ c1 (j_ c2 (j_ c3 (j_ c4 (j_ c5 (j_ c6 n2))))))))))) ?_
   exact next (Qam _ _ _ rfl)
  have c6:=Qhn (n:=12) k6 rfl
  by_cases k7:c=13
  ·have c7:=Qhw (n:=13) k7 rfl
   have e:QbP c= [92,114]:=by unfold QbP;rw[if_neg hne,if_neg k3,if_neg k4,if_neg k5,if_neg k6,if_pos k7]
   rw[e]at next
   refine w_r (j_ f1 (j_ hc (j_ @byteD.eq_1 (j_ hTz (j_ w1 (j_ c1 (j_ c2 (j_ c3 (j_ c4 (j_ c5 (j_ c6 (j_ c7 n2)))))))))))) ?_
   exact next (Qam _ _ _ rfl)
  have c7:=Qhn (n:=13) k7 rfl
  by_cases k8:c.toNat<32
  ·have c8:((c.toNat:Int)<32)=True:=eq_true (by omega)
   have e:QbP c= [92,117,48,48,Qf6 (c.toNat/16),Qf6 (c.toNat % 16)]:=by unfold QbP;rw[if_neg hne,if_neg k3,if_neg k4,if_neg k5,if_neg k6,if_neg k7,if_pos k8]
   rw[e]at next
   have p1:=shr4 c.toNat
   have p2:=and15u c.toNat hcl
   have p3:=hex_at ⟨c.toNat/16,by omega⟩
   have p4:=hex_at ⟨c.toNat % 16,by omega⟩
   simp only[hexs]at p3 p4
   refine w_r (j_ f1 (j_ hc (j_ @byteD.eq_1 (j_ hTz (j_ w1 (j_ c1 (j_ c2 (j_ c3 (j_ c4 (j_ c5 (j_ c6 (j_ c7 (j_ c8 (j_ n6 (j_ p1 (j_ p2 (j_ p3 p4))))))))))))))))) ?_
   exact next (Qam _ _ _ rfl)
  have c8:((c.toNat:Int)<32)=False:=eq_false (by omega)
  have e:QbP c= [c]:=by unfold QbP;rw[if_neg hne,if_neg k3,if_neg k4,if_neg k5,if_neg k6,if_neg k7,if_neg k8]
  rw[e]at next
  refine w_r (j_ f1 (j_ hc (j_ @byteD.eq_1 (j_ hTz (j_ w1 (j_ c1 (j_ c2 (j_ c3 (j_ c4 (j_ c5 (j_ c6 (j_ c7 (j_ c8 n1))))))))))))) ?_
  exact next (Qam _ _ _ rfl)
 ·obtain rfl:i=s.length:=by omega
  have f1:((s.length:Int)<(s.length:Int))=False:=eq_false (by omega)
  rw[List.take_length]at hT
  have n1:(T.length+(0+1))*2≤70368744177664:=by omega
  have e:b++QaG s=(b++34::s.flatMap QbP)++ [34]:=by unfold QaG;simp
  rw[e,bF,List.map_append,←hT]
  clear hT e
  refine w_r (j_ f1 (j_ hTz n1)) ?_
  exact Qae (vs:= [.fslice (T++ [byteD 34])]) rfl rfl ⟨rfl,rfl⟩
end Go.Proofs.YtmhmjlfajlpabaaDoor
namespace Go.Proofs.YtmhmjlfajlpabaaDoor
open Go Go.Abs
theorem Qgn{α:Type}(f:α→Nat):∀ {P:List α} {i:Nat} {p:α},P[i]? =some p→((P.take i).map f).sum+f p≤(P.map f).sum
 | [],i,p,h=>by cases h
 |a::P,0,p,h=>by
  simp only[List.getElem?_cons_zero,Option.some.injEq]at h
  subst h
  simp
 |a::P,i+1,p,h=>by
  have:=Qgn f (P:=P) (i:=i) (p:=p) (by simpa using h)
  simp only[List.take_succ_cons,List.map_cons,List.sum_cons];omega
theorem Qoo{f:Nat}{j:J}(h:goodB (f+1) j=true)(h5:j.k=5):((Qay j.ks).map fun i=>32*wt (j.l.getD i J.zero)+6*(j.ks.getD i []).length+4).sum+32≤32*wt j:=by
 obtain⟨hs,ha⟩:=Bool.and_eq_true_iff.1 (show(Qas j&&j.l.all (goodB f))=true from h)
 have hw:=Qe1 j
 obtain⟨hl,hd⟩:=QbZ hs h5
 rw[Qkt wt List.length,Qf1 ((Qa6 j.ks).map fun i=>wt (j.l.getD i J.zero)),Qf1 ((Qa6 j.ks).map fun i=>(j.ks.getD i []).length),Qa4]
 have e1:(List.range j.ks.length).map (fun i=>wt (j.l.getD i J.zero))=j.l.map wt:=by
  rw[hl,show(fun i=>wt (j.l.getD i J.zero))=wt∘(fun i=>j.l.getD i J.zero)from rfl,←List.map_map,QbO]
 have e2:(List.range j.ks.length).map (fun i=>(j.ks.getD i []).length)=j.ks.map List.length:=by
  rw[show(fun i=>(j.ks.getD i []).length)=List.length∘(fun i=>j.ks.getD i [])from rfl,←List.map_map,QbO]
 rw[e1,e2,Qgc]
 have h3:=QkQ j.ks
 omega
theorem Qnq{f:Nat}{j:J}(h:goodB (f+1) j=true)(h5:j.k=5)(b:Tx){i p:Nat}(hp:(Qay j.ks)[i]? =some p):
  (Qgf (QaM f) j.ks j.l true b ((Qay j.ks).take i)).length+32*wt (j.l.getD p J.zero)+6*(j.ks.getD p []).length+4+32≤b.length+32*wt j:=by
 have hm:=Qoo h h5
 obtain⟨hs,ha⟩:=Bool.and_eq_true_iff.1 (show(Qas j&&j.l.all (goodB f))=true from h)
 have hall:∀y∈j.l,goodB f y=true:=fun y hy=>List.all_eq_true.1 ha y hy
 obtain⟨hl,hd⟩:=QbZ hs h5
 have h1:=Qio (w:=QaM f) (ks:=j.ks) (l:=j.l) ((Qay j.ks).take i) true b fun i hi b=>Qc0 f b _ (hall _ (by
  have:=QbH (List.mem_of_mem_take hi)
  simp only[List.getD,List.getElem?_eq_getElem (show i<j.l.length by omega),Option.getD_some]
  exact List.getElem_mem _))
 have h2:=Qgn (fun i=>32*wt (j.l.getD i J.zero)+6*(j.ks.getD i []).length+4) hp
 omega
theorem wMap_len{f:Nat}{j:J}(h:goodB (f+1) j=true)(h5:j.k=5)(b:Tx):
  (Qgf (QaM f) j.ks j.l true b (Qay j.ks)).length+32≤b.length+32*wt j:=by
 have hm:=Qoo h h5
 obtain⟨hs,ha⟩:=Bool.and_eq_true_iff.1 (show(Qas j&&j.l.all (goodB f))=true from h)
 have hall:∀y∈j.l,goodB f y=true:=fun y hy=>List.all_eq_true.1 ha y hy
 obtain⟨hl,hd⟩:=QbZ hs h5
 have h1:=Qio (w:=QaM f) (ks:=j.ks) (l:=j.l) (Qay j.ks) true b fun i hi b=>Qc0 f b _ (hall _ (by
  have:=QbH hi
  simp only[List.getD,List.getElem?_eq_getElem (show i<j.l.length by omega),Option.getD_some]
  exact List.getElem_mem _))
 omega
theorem Qmo{f:Nat}{j:J}(h:goodB (f+1) j=true)(b:Tx){i:Nat}{y:J}(hp:j.l[i]? =some y):
  (QcQ (QaM f) true b (j.l.take i)).length+32*wt y+32≤b.length+32*wt j:=by
 obtain⟨hs,ha⟩:=Bool.and_eq_true_iff.1 (show(Qas j&&j.l.all (goodB f))=true from h)
 have hall:∀y∈j.l,goodB f y=true:=fun y hy=>List.all_eq_true.1 ha y hy
 have hw:=Qe1 j
 have h1:=QfU (w:=QaM f) (j.l.take i) true b fun y hy b=>Qc0 f b _ (hall _ (List.mem_of_mem_take hy))
 have h2:=Qgn wt hp
 rw[Qgc,Qgc]at h2
 omega
end Go.Proofs.YtmhmjlfajlpabaaDoor
namespace Go.Proofs.YtmhmjlfajlpabaaDoor
open Go Go.Abs Go.Lib
theorem one_row(H:Qaa)(a:AObj)(M:List AObj):∃G:AObj→Qaa,(∀q,(H++ [a])++M++ [q]=G q)∧((H++ [a])++M).length=H.length+1+M.length∧(∀q,(G q)[H.length+1+M.length]? =some q)∧(∀q q',(G q).set (H.length+1+M.length) q'=G q'):=by
 refine⟨fun q=>(H++ [a])++M++ [q],fun _=>rfl,by simp;omega,fun q=> ?_,fun q q'=> ?_⟩
 ·rw[List.getElem?_append_right (by simp;omega)]
  have:H.length+1+M.length-(H++ [a]++M).length=0:=by simp;omega
  rw[this];rfl
 ·rw[List.set_append_right _ _ (by simp;omega)]
  have:H.length+1+M.length-(H++ [a]++M).length=0:=by simp;omega
  rw[this];rfl
set_option maxHeartbeats 2000000 in
theorem Qij:∀(n:Nat) (lim:Nat) (H:Qaa) (b:Tx) (j:J),goodB n j=true→wt j≤100000000000→b.length+32*wt j≤9000000000000→Ev (QaF code Qap) 28 lim [bF b,.d j.d] H (bF (QaM n b j)) H
 |0,_,_,_,_,h,_,_=>by cases h
 |n+1,lim,H,b,j,hg,hwt,hb=>by
  have hp1:=wt_pos j
  obtain⟨hs,ha⟩:=Bool.and_eq_true_iff.1 (show(Qas j&&j.l.all (goodB n))=true from hg)
  have hall:∀y∈j.l,goodB n y=true:=fun y hy=>List.all_eq_true.1 ha y hy
  have hk:=wt_ks j
  have hl:=wt_l j
  have hyw:∀y∈j.l,wt y≤100000000000:=fun y hy=>by have:=Qlo hy;omega
  refine Fn.ev ?_
  refine Qbj (pn rfl) rfl (show code 28=some c28 from rfl) rfl ?_;simp only[List.length_cons,List.length_nil,List.cons_append,List.nil_append,simprocAttr]
  have hjd:=jd j
  have hz:=QaE b
  obtain⟨K,hK⟩:∃K,H++ [AObj.cells (jC j)]=K:=⟨_,rfl⟩
  have gK:K[H.length]? =some (.cells (jC j)):=by rw[←hK];exact Qbr _ _
  unfold QaM
  by_cases c0:16384<b.length
  ·rw[if_pos c0]
   have f0:((b.length:Int)>16384)=True:=eq_true (by omega)
   refine w_r (j_ hjd (j_ hK (j_ f0 (@List.length_map.{0,0})))) ?_
   exact Qae (vs:= [bF b]) rfl rfl ⟨rfl,rfl⟩
  rw[if_neg c0]
  have f0:((b.length:Int)>16384)=False:=eq_false (by omega)
  by_cases h1:j.k=1
  ·rw[if_pos h1]
   have c1:(j.k==1)=true:=by simpa using h1
   by_cases ht:j.n=1
   ·have ct:(j.n==1)=true:=by simpa using ht
    rw[if_pos ht]
    have a1:=Qmj H.length K b true (by omega)
    refine w_r (j_ hjd (j_ hK (j_ f0 (j_ gK (j_ c1 (@List.length_map.{0,0})))))) ?_
    refine w_1 a1 (j_ gK ct) ?_
    refine w_r trivial ?_
    exact Qae (vs:= [bF (b++_)]) rfl rfl ⟨rfl,rfl⟩
   ·have ct:(j.n==1)=false:=by simpa using ht
    rw[if_neg ht]
    have a1:=Qmj H.length K b false (by omega)
    refine w_r (j_ hjd (j_ hK (j_ f0 (j_ gK (j_ c1 (@List.length_map.{0,0})))))) ?_
    refine w_1 a1 (j_ gK ct) ?_
    refine w_r trivial ?_
    exact Qae (vs:= [bF (b++_)]) rfl rfl ⟨rfl,rfl⟩
  rw[if_neg h1]
  have c1:(j.k==1)=false:=by simpa using h1
  by_cases h2:j.k=2
  ·rw[if_pos h2]
   have c2:(j.k==2)=true:=by simpa using h2
   obtain⟨r1,r2⟩:=Qe2 hs h2
   have a1:=intA_ev H.length K b j.n r1 r2 (by omega)
   refine w_r (j_ hjd (j_ hK (j_ f0 (j_ gK (j_ c1 (j_ c2 (@List.length_map.{0,0}))))))) ?_
   refine w_1 a1 gK ?_
   refine w_r trivial ?_
   exact Qae (vs:= [bF (b++_)]) rfl rfl ⟨rfl,rfl⟩
  rw[if_neg h2]
  have c2:(j.k==2)=false:=by simpa using h2
  by_cases h3:j.k=3
  ·rw[if_pos h3]
   have c3:(j.k==3)=true:=by simpa using h3
   have htl:=wt_t j
   have a1:=Qiw H.length K b j.t (by omega) (by omega)
   refine w_r (j_ hjd (j_ hK (j_ f0 (j_ gK (j_ c1 (j_ c2 (j_ c3 (@List.length_map.{0,0})))))))) ?_
   refine w_1 a1 gK ?_
   refine w_r trivial ?_
   exact Qae (vs:= [bF (b++_)]) rfl rfl ⟨rfl,rfl⟩
  rw[if_neg h3]
  have c3:(j.k==3)=false:=by simpa using h3
  have n1:(b.length+(0+1))*2≤70368744177664:=by omega
  have n4:(b.length+(0+1+1+1+1))*2≤70368744177664:=by omega
  by_cases h4:j.k=4
  ·rw[if_pos h4]
   have c4:(j.k==4)=true:=by simpa using h4
   refine w_r (j_ hjd (j_ hK (j_ f0 (j_ gK (j_ c1 (j_ c2 (j_ c3 (j_ c4 (j_ hz (j_ n1 (@List.length_map.{0,0}))))))))))) ?_
   refine Qki (fun k st=>∃(i:Nat) (T:List D) (M:List AObj),i≤j.l.length∧k=j.l.length-i∧T=(QcQ (QaM n) true (b++ [91]) (j.l.take i)).map byteD∧∃x:Nat→AV,st=⟨[.fslice T,x 1,x 2,x 3,x 4,x 5,x 6,x 7,x 8,x 9,x 10,x 11,.fslice [],.ptr H.length 0,x 14,.d (jsD j.l),intD j.l.length,intD i,x 18,x 19,x 20,x 21,x 22,x 23,x 24,x 25,x 26,x 27],K++M⟩) ?_ _ _ ⟨0,_,[],Nat.zero_le _,rfl,by simp[QcQ,byteD],QdU (by rw[List.append_nil]) rfl⟩
   rintro k _ ⟨i,T,M,hi,rfl,hT,x,rfl⟩
   have hTz:Qbh 1 T=true:=by rw[hT];exact QaE _
   by_cases t0:i<j.l.length
   ·have f1:((i:Int)<(j.l.length:Int))=True:=eq_true (by omega)
    have w1:IntKind.i64.wrap ((i:Int)+1)=((i+1:Nat):Int):=Qef (by omega)
    obtain⟨y,hy⟩:∃y,j.l[i]? =some y:=⟨_,List.getElem?_eq_getElem t0⟩
    have hyd:=jd y
    have hstep:=Qmo hg (b++ [91]) hy
    have hsn:=Qht (QaM n) (j.l.take i) true (b++ [91]) y
    rw[show j.l.take i++ [y]=j.l.take (i+1) by rw[List.take_add_one,hy];rfl]at hsn
    have hym:=List.mem_of_getElem? hy
    have ih:=fun(L:Nat) (H:Qaa) (c:Tx) (hc:c.length+32*wt y≤9000000000000)=>Qij n L H c y (hall y hym) (hyw y hym) hc
    simp only[hyd]at ih
    obtain⟨W0,hW0⟩:∃W0,QcQ (QaM n) true (b++ [91]) (j.l.take i)=W0:=⟨_,rfl⟩
    obtain⟨W1,hW1⟩:∃W1,QcQ (QaM n) true (b++ [91]) (j.l.take (i+1))=W1:=⟨_,rfl⟩
    rw[hW0]at hstep hsn hT
    rw[hW1]at hsn
    simp only[List.length_append,List.length_cons,List.length_nil]at hstep
    have hTl:T.length=W0.length:=by rw[hT,List.length_map]
    obtain⟨G,gg,gl,g0,g4⟩:=one_row H (.cells (jC j)) M
    rw[hK]at gg gl
    have hll3:H.length≤H.length+1+M.length:=by omega
    by_cases hi0:i=0
    ·have f2:((i:Int)>0)=False:=eq_false (by omega)
     have he:(j.l.take i).isEmpty=true:=by subst hi0;rfl
     rw[he]at hsn
     have a1:=ih H.length (G (.cells (jC y))) W0 (by omega)
     rw[show QaM n W0 y=W1 from hsn.symm,bF,←hT]at a1
     refine w_r (j_ f1 (j_ f2 (j_ hy (j_ hyd (j_ gg (j_ gl (j_ g0 (j_ g4 hll3)))))))) ?_
     refine w_1 a1 g0 ?_
     refine w_r w1 ?_
     exact⟨j.l.length-(i+1),by omega,i+1,_,M++ [.cells (jC y)],t0,rfl,by rw[hW1],QdU (by rw[←List.append_assoc,gg]) rfl⟩
    ·have f2:((i:Int)>0)=True:=eq_true (by omega)
     have he:(j.l.take i).isEmpty=false:=by
      cases h:(j.l.take i).isEmpty with
      |false=>rfl
      |true=>have:=congrArg List.length (List.isEmpty_iff.1 h);rw[List.length_take,List.length_nil]at this;omega
     rw[he]at hsn
     have a1:=ih H.length (G (.cells (jC y))) (W0++ [44]) (by rw[List.length_append];show W0.length+1+32*wt y≤_;omega)
     rw[show QaM n (W0++ [44]) y=W1 from hsn.symm,show bF (W0++ [44])= .fslice (T++ [D.int .u8 44]) by rw[hT];simp[bF,byteD]]at a1
     have m1:(T.length+(0+1))*2≤70368744177664:=by omega
     refine w_r (j_ f1 (j_ f2 (j_ hy (j_ hyd (j_ gg (j_ gl (j_ g0 (j_ g4 (j_ hll3 (j_ hTz m1)))))))))) ?_
     refine w_1 a1 g0 ?_
     refine w_r w1 ?_
     exact⟨j.l.length-(i+1),by omega,i+1,_,M++ [.cells (jC y)],t0,rfl,by rw[hW1],QdU (by rw[←List.append_assoc,gg]) rfl⟩
   ·obtain rfl:i=j.l.length:=by omega
    have f1:((j.l.length:Int)<(j.l.length:Int))=False:=eq_false (by omega)
    rw[List.take_length]at hT
    have hle:=QfU (w:=QaM n) j.l true (b++ [91]) fun y hy b=>Qc0 n b y (hall y hy)
    have hw:=Qe1 j
    obtain⟨W0,hW0⟩:∃W0,QcQ (QaM n) true (b++ [91]) j.l=W0:=⟨_,rfl⟩
    rw[hW0]at hle hT⊢
    simp only[List.length_append,List.length_cons,List.length_nil]at hle
    have m1:(T.length+(0+1))*2≤70368744177664:=by rw[hT,List.length_map];omega
    refine w_r (j_ f1 (j_ hTz m1)) ?_
    exact Qae (vs:= [.fslice (T++ [D.int .u8 93])]) rfl rfl ⟨by rw[hT];simp[bF,byteD],rfl⟩
  rw[if_neg h4]
  have c4:(j.k==4)=false:=by simpa using h4
  by_cases h5:j.k=5
  ·rw[if_pos h5]
   have c5:(j.k==5)=true:=by simpa using h5
   obtain⟨hkl,hnd⟩:=QbZ hs h5
   refine w_r (j_ hjd (j_ hK (j_ f0 (j_ gK (j_ c1 (j_ c2 (j_ c3 (j_ c4 (j_ c5 (j_ hz (j_ n1 (@List.length_map.{0,0})))))))))))) ?_
   have hpl:=Qjp (pr:=Qap) H.length K j.ks (by omega) hnd
   obtain⟨P,hP⟩:∃P,Qay j.ks=P:=⟨_,rfl⟩
   have hPl:=Qa4 j.ks
   have hPm:∀i∈P,i<j.ks.length:=fun i hi=>QbH (hP▸hi)
   rw[hP]at hpl hPl
   have hst:=fun(i p:Nat) (h:(Qay j.ks)[i]? =some p)=>Qnq hg h5 (b++ [123]) h
   rw[hP]at hst⊢
   refine w_1 hpl (j_ gK (@List.length_map.{0,0})) ?_
   refine w_r trivial ?_
   refine Qki (fun k st=>∃(i:Nat) (T:List D),i≤P.length∧k=P.length-i∧T=(Qgf (QaM n) j.ks j.l true (b++ [123]) (P.take i)).map byteD∧∃x:Nat→AV,st=⟨[.fslice T,x 1,x 2,x 3,x 4,x 5,x 6,x 7,x 8,x 9,x 10,x 11,.fslice [],.ptr H.length 0,x 14,x 15,x 16,x 17,x 18,x 19,.d (.slice (P.map fun(i:Nat)=>D.int .i64 (i:Int))),intD P.length,intD i,x 23,x 24,x 25,x 26,x 27],K⟩) ?_ _ _ ⟨0,_,Nat.zero_le _,rfl,by simp[Qgf,byteD],Qam _ _ _ rfl⟩
   rintro k _ ⟨i,T,hi,rfl,hT,x,rfl⟩
   have hTz:Qbh 1 T=true:=by rw[hT];exact QaE _
   by_cases t0:i<P.length
   ·have f1:((i:Int)<(P.length:Int))=True:=eq_true (by omega)
    have w1:IntKind.i64.wrap ((i:Int)+1)=((i+1:Nat):Int):=Qef (by omega)
    obtain⟨p,hp⟩:∃p,P[i]? =some p:=⟨_,List.getElem?_eq_getElem t0⟩
    have hpk:=hPm p (List.mem_of_getElem? hp)
    obtain⟨s,hs'⟩:∃s,j.ks[p]? =some s:=⟨_,List.getElem?_eq_getElem hpk⟩
    obtain⟨y,hy⟩:∃y,j.l[p]? =some y:=⟨_,List.getElem?_eq_getElem (by omega)⟩
    have hyd:=jd y
    have hstep:=hst i p hp
    have hsn:=Qi3 (QaM n) j.ks j.l (P.take i) true (b++ [123]) p
    rw[show P.take i++ [p]=P.take (i+1) by rw[List.take_add_one,hp];rfl]at hsn
    have g1:j.ks.getD p []=s:=by simp[List.getD,hs']
    have g2:j.l.getD p J.zero=y:=by simp[List.getD,hy]
    rw[g1,g2]at hsn hstep
    have hym:=List.mem_of_getElem? hy
    have ih:=fun(L:Nat) (H:Qaa) (c:Tx) (hc:c.length+32*wt y≤9000000000000)=>Qij n L H c y (hall y hym) (hyw y hym) hc
    simp only[hyd]at ih
    obtain⟨W0,hW0⟩:∃W0,Qgf (QaM n) j.ks j.l true (b++ [123]) (P.take i)=W0:=⟨_,rfl⟩
    obtain⟨W1,hW1⟩:∃W1,Qgf (QaM n) j.ks j.l true (b++ [123]) (P.take (i+1))=W1:=⟨_,rfl⟩
    rw[hW0]at hstep hsn hT
    rw[hW1]at hsn
    simp only[List.length_append,List.length_cons,List.length_nil]at hstep
    have hTl:T.length=W0.length:=by rw[hT,List.length_map]
    have hql:=Qe8 s
    have hsl:s.length≤100000000000:=by have:=wt_key (List.mem_of_getElem? hs');omega
    by_cases hi0:i=0
    ·have f2:((i:Int)>0)=False:=eq_false (by omega)
     have he:(P.take i).isEmpty=true:=by subst hi0;rfl
     rw[he]at hsn
     have aq:=Qiw H.length K W0 s (by omega) (by omega)
     obtain⟨U,hU⟩:∃U,(W0++QaG s).map byteD=U:=⟨_,rfl⟩
     have hUl:U.length≤W0.length+1+6*s.length+2:=by rw[←hU,List.length_map,List.length_append];omega
     have hUz:Qbh 1 U=true:=by rw[←hU];exact QaE _
     have aw:=ih H.length K (W0++QaG s++ [58]) (by rw[List.length_append,List.length_append];show W0.length+_+1+32*wt y≤_;omega)
     rw[show QaM n (W0++QaG s++ [58]) y=W1 from hsn.symm,show bF (W0++QaG s++ [58])= .fslice (U++ [D.int .u8 58]) by rw[←hU];simp[bF,byteD]]at aw
     rw[bF,bF,hU,←hT]at aq
     have m2:(U.length+(0+1))*2≤70368744177664:=by omega
     clear hU
     refine w_r (j_ f1 (j_ f2 hp)) ?_
     refine w_2 aq aw (j_ gK (j_ hs' (j_ hy (j_ hyd (j_ hUz m2))))) ?_
     refine w_r w1 ?_
     exact⟨P.length-(i+1),by omega,i+1,_,t0,rfl,by rw[hW1],Qam _ _ _ rfl⟩
    ·have f2:((i:Int)>0)=True:=eq_true (by omega)
     have he:(P.take i).isEmpty=false:=by
      cases h:(P.take i).isEmpty with
      |false=>rfl
      |true=>have:=congrArg List.length (List.isEmpty_iff.1 h);rw[List.length_take,List.length_nil]at this;omega
     rw[he]at hsn
     have hc44:(W0++ [44]).length=W0.length+1:=by simp
     have aq:=Qiw H.length K (W0++ [44]) s (by omega) (by omega)
     obtain⟨U,hU⟩:∃U,(W0++ [44]++QaG s).map byteD=U:=⟨_,rfl⟩
     have hUl:U.length≤W0.length+1+6*s.length+2:=by rw[←hU,List.length_map,List.length_append];omega
     have hUz:Qbh 1 U=true:=by rw[←hU];exact QaE _
     have aw:=ih H.length K (W0++ [44]++QaG s++ [58]) (by rw[List.length_append,List.length_append];show(W0++ [44]).length+_+1+32*wt y≤_;omega)
     rw[show QaM n (W0++ [44]++QaG s++ [58]) y=W1 from hsn.symm,show bF (W0++ [44]++QaG s++ [58])= .fslice (U++ [D.int .u8 58]) by rw[←hU];simp[bF,byteD]]at aw
     rw[show bF (W0++ [44])= .fslice (T++ [D.int .u8 44]) by rw[hT];simp[bF,byteD],bF,hU]at aq
     have m1:(T.length+(0+1))*2≤70368744177664:=by omega
     have m2:(U.length+(0+1))*2≤70368744177664:=by omega
     clear hU
     refine w_r (j_ f1 (j_ f2 (j_ hp (j_ hTz m1)))) ?_
     refine w_2 aq aw (j_ gK (j_ hs' (j_ hy (j_ hyd (j_ hUz m2))))) ?_
     refine w_r w1 ?_
     exact⟨P.length-(i+1),by omega,i+1,_,t0,rfl,by rw[hW1],Qam _ _ _ rfl⟩
   ·obtain rfl:i=P.length:=by omega
    have f1:((P.length:Int)<(P.length:Int))=False:=eq_false (by omega)
    rw[List.take_length]at hT
    have hle:=wMap_len hg h5 (b++ [123])
    rw[hP]at hle
    obtain⟨W0,hW0⟩:∃W0,Qgf (QaM n) j.ks j.l true (b++ [123]) P=W0:=⟨_,rfl⟩
    rw[hW0]at hle hT⊢
    simp only[List.length_append,List.length_cons,List.length_nil]at hle
    have m1:(T.length+(0+1))*2≤70368744177664:=by rw[hT,List.length_map];omega
    refine w_r (j_ f1 (j_ hTz m1)) ?_
    exact Qae (vs:= [.fslice (T++ [D.int .u8 125])]) rfl rfl ⟨by rw[hT];simp[bF,byteD],rfl⟩
  rw[if_neg h5]
  have c5:(j.k==5)=false:=by simpa using h5
  refine w_r (j_ hjd (j_ hK (j_ f0 (j_ gK (j_ c1 (j_ c2 (j_ c3 (j_ c4 (j_ c5 (j_ hz (j_ n4 (@List.length_map.{0,0})))))))))))) ?_
  exact Qae (vs:= [bF (b++ [110,117,108,108])]) (by simp only[Qcg,zz,simprocAttr];simp[bF,byteD]) rfl ⟨rfl,rfl⟩
theorem Qkk(lim:Nat)(H:Qaa)(j:J)(hw:wt j≤100000000000):Ev (QaF code Qap) 12 lim [.d j.d] H (encV (QcY j)) H:=by
 refine Fn.ev ?_
 refine Qbj (pn rfl) rfl (show code 12=some c12 from rfl) rfl ?_;simp only[List.length_cons,List.length_nil,List.cons_append,List.nil_append,simprocAttr]
 have hjd:=jd j
 obtain⟨K,hK⟩:∃K,H++ [AObj.cells (jC j)]=K:=⟨_,rfl⟩
 have gK:K[H.length]? =some (.cells (jC j)):=by rw[←hK];exact Qbr _ _
 have hg:=Good_ev H.length K j hw
 simp only[hjd]at hg
 cases hgo:goodB 12 j with
 |false=>
  unfold QcY
  rw[hgo]at hg⊢
  refine w_r (j_ hjd (j_ hK gK)) ?_
  refine w_1 hg gK ?_
  refine w_r trivial ?_
  exact Qae (vs:= [.fslice [],intD 1]) rfl rfl ⟨rfl,rfl⟩
 |true=>
  rw[hgo]at hg
  rw[QjZ hgo]
  have ht:=Qij 12 H.length K [] j hgo hw (by simp;omega)
  rw[hjd,show bF []= .fslice []from rfl]at ht
  generalize QaM 12 [] j=T at*
  refine w_r (j_ hjd (j_ hK gK)) ?_
  refine w_1 hg gK ?_
  refine w_r gK ?_
  refine w_1 ht gK ?_
  by_cases hl:16384<T.length
  ·have f1:((T.length:Int)>16384)=True:=eq_true (by omega)
   rw[if_pos hl]
   refine w_r (j_ f1 (@List.length_map.{0,0})) ?_
   exact Qae (vs:= [.fslice [],intD 13]) rfl rfl ⟨rfl,rfl⟩
  ·have f1:((T.length:Int)>16384)=False:=eq_false (by omega)
   rw[if_neg hl]
   refine w_r (j_ f1 (@List.length_map.{0,0})) ?_
   exact Qae (vs:= [bF T,intD 0]) rfl rfl ⟨rfl,rfl⟩
end Go.Proofs.YtmhmjlfajlpabaaDoor
namespace Go.Proofs.YtmhmjlfajlpabaaDoor
open Go Go.Abs
section
variable {s:Tx}
theorem Qch{p:Nat}{c:UInt8}{r:Tx}(h:s.drop p=c::r):s[p]? =some c:=by
 have:=List.getElem?_drop (xs:=s) (i:=p) (j:=0)
 rw[h]at this
 simpa using this.symm
theorem QfM{p:Nat}{x r:Tx}(h:s.drop p=x++r):s.drop (p+x.length)=r:=by
 rw[←List.drop_drop,h,List.drop_left]
theorem Qbf{p:Nat}{c:UInt8}{r:Tx}(h:s.drop p=c::r):s.drop (p+1)=r:=by
 rw[←List.drop_drop,h];rfl
theorem Qft{p:Nat}{c:UInt8}{r:Tx}(h:s.drop p=c::r):nx s p=c:=by rw[nx,Qch h];rfl
theorem at_nil{p:Nat}(h:s.drop p= []):s[p]? =none:=by
 have:=List.getElem?_drop (xs:=s) (i:=p) (j:=0)
 rw[h]at this
 simpa using this.symm
theorem at_len{p:Nat}{x r:Tx}(h:s.drop p=x++r):x.length≤s.length:=by
 have:=congrArg List.length h
 rw[List.length_drop,List.length_append]at this;omega
theorem Qhj{p:Nat}{c:UInt8}{r:Tx}(h:s.drop p=c::r):Qcb s c p= .ok (p+1):=by
 rw[Qcb,Qch h,if_pos rfl]
theorem QiY:∀(w:Tx) {p:Nat} {r:Tx},s.drop p=w++r→Qdk s w p= .ok (p+w.length)
 | [],p,r,_=>rfl
 |c::w,p,r,h=>by
  unfold Qdk
  rw[Qhj h]
  show Qdk s w (p+1)=_
  rw[QiY w (Qbf (r:=w++r) h),List.length_cons]
  congr 1;omega
theorem Qcn{p:Nat}{c:UInt8}{r:Tx}(h:s.drop p=c::r)(hc:Qao c=false):Qaf s p=p:=by
 rw[Qaf,h,List.takeWhile_cons_of_neg (by simp[hc])];rfl
theorem Qo9{p:Nat}(h:s.drop p= []):Qaf s p=p:=by rw[Qaf,h];rfl
theorem Ql2:∀n:Fin 16,hexV (Qf6 n.val)=some n.val:=by decide
theorem QnN(c:UInt8)(h:c.toNat<128):QcU c.toNat= [c]:=by
 rw[QcU,if_pos h];simp
theorem esc_hex{p:Nat}{c:UInt8}{r:Tx}(hc:c.toNat<32)(h:s.drop p= [117,48,48,Qf6 (c.toNat/16),Qf6 (c.toNat % 16)]++r):Qec s p= .ok (c.toNat,p+5):=by
 have g0:s[p]? =some 117:=Qch (r:= [48,48,Qf6 (c.toNat/16),Qf6 (c.toNat % 16)]++r) h
 have d1:s.drop (p+1)= [48,48,Qf6 (c.toNat/16),Qf6 (c.toNat % 16)]++r:=Qbf h
 have d2:s.drop (p+1+1)= [48,Qf6 (c.toNat/16),Qf6 (c.toNat % 16)]++r:=Qbf d1
 have d3:s.drop (p+1+1+1)= [Qf6 (c.toNat/16),Qf6 (c.toNat % 16)]++r:=Qbf d2
 have d4:s.drop (p+1+1+1+1)= [Qf6 (c.toNat % 16)]++r:=Qbf d3
 have h1:=Ql2 ⟨c.toNat/16,by omega⟩
 have h2:=Ql2 ⟨c.toNat % 16,by omega⟩
 simp only at h1 h2
 have h0:hexV 48=some 0:=rfl
 have e:QbB s 4 0 (p+1)= .ok (c.toNat,p+5):=by
  simp only[QbB,Qch d1,Qch d2,Qch d3,Qch d4,h0,h1,h2]
  congr 2;omega
 unfold Qec
 rw[g0]
 simp only[e]
 rw[if_neg (by decide),if_neg (by decide),if_neg (by decide),if_neg (by decide),if_neg (by decide),if_neg (by decide),if_pos (by simp),if_pos (.inl (by omega))]
theorem esc_self{p:Nat}{c:UInt8}{r:Tx}(hc:c=34∨c=92)(h:s.drop p=c::r):Qec s p= .ok (c.toNat,p+1):=by
 unfold Qec
 rw[Qch h]
 simp only
 rw[if_pos (by rcases hc with h|h<;>simp[h])]
theorem esc_ctl{p:Nat}{c d:UInt8}{r:Tx}(hc:(c=8∧d=98)∨(c=9∧d=116)∨(c=10∧d=110)∨(c=12∧d=102)∨(c=13∧d=114))(h:s.drop p=d::r):Qec s p= .ok (c.toNat,p+1):=by
 unfold Qec
 rw[Qch h]
 rcases hc with⟨rfl,rfl⟩|⟨rfl,rfl⟩|⟨rfl,rfl⟩|⟨rfl,rfl⟩|⟨rfl,rfl⟩<;>rfl
theorem Qha{f p q:Nat}{acc:Tx}{c:UInt8}{r:Tx}(h:s.drop p=92::r)(he:Qec s (p+1)= .ok (c.toNat,q))(hc:c.toNat<128):QbG s (f+1) acc p=QbG s f (acc++ [c]) q:=by
 conv=>lhs;unfold QbG
 rw[Qch h]
 simp only[he,QnN c hc]
 rw[if_neg (by decide),if_neg (by decide),if_pos (by simp)]
theorem Qib:∀(t:Tx) (f:Nat) (acc:Tx) (p:Nat) (r:Tx),s.drop p=t.flatMap QbP++34::r→t.length<f→QbG s f acc p= .ok (acc++t,p+(t.flatMap QbP).length+1)
 | [],0,_,_,_,_,h=>by omega
 | [],f+1,acc,p,r,h,_=>by
   unfold QbG
   rw[Qch (c:=34) (r:=r) h]
   simp only
   rw[if_neg (by decide),if_pos (by simp)]
   simp
 |c::t,0,_,_,_,_,h=>by simp at h
 |c::t,f+1,acc,p,r,h,hf=>by
  rw[List.flatMap_cons,List.append_assoc]at h
  have ih:=fun(q:Nat) (hq:s.drop q=t.flatMap QbP++34::r)=>Qib t f (acc++ [c]) q r hq (by simpa using hf)
  have ha:acc++ [c]++t=acc++c::t:=by simp
  rw[ha]at ih
  have hd:=QfM h
  rw[List.flatMap_cons,List.length_append]
  by_cases k1:c=34∨c=92
  ·have e:QbP c= [92,c]:=by rw[QbP,if_pos k1]
   rw[e]at h hd⊢
   rw[Qha (r:=c::(t.flatMap QbP++34::r)) h (esc_self (r:=t.flatMap QbP++34::r) k1 (Qbf h)) (by rcases k1 with rfl|rfl<;>decide),ih (p+1+1) hd]
   simp only[List.length_cons,List.length_nil];congr 2;omega
  by_cases k2:c=8∨c=9∨c=10∨c=12∨c=13
  ·obtain⟨d,hcd,e⟩:∃d,((c=8∧d=98)∨(c=9∧d=116)∨(c=10∧d=110)∨(c=12∧d=102)∨(c=13∧d=114))∧QbP c= [92,d]:=by
    rcases k2 with rfl|rfl|rfl|rfl|rfl
    ·exact⟨98,by simp,rfl⟩
    ·exact⟨116,by simp,rfl⟩
    ·exact⟨110,by simp,rfl⟩
    ·exact⟨102,by simp,rfl⟩
    ·exact⟨114,by simp,rfl⟩
   rw[e]at h hd⊢
   rw[Qha (r:=d::(t.flatMap QbP++34::r)) h (esc_ctl (r:=t.flatMap QbP++34::r) hcd (Qbf h)) (by rcases k2 with rfl|rfl|rfl|rfl|rfl<;>decide),ih (p+1+1) hd]
   simp only[List.length_cons,List.length_nil];congr 2;omega
  have k2':c≠8∧c≠9∧c≠10∧c≠12∧c≠13:=⟨fun e=>k2 (by simp[e]),fun e=>k2 (by simp[e]),fun e=>k2 (by simp[e]),fun e=>k2 (by simp[e]),fun e=>k2 (by simp[e])⟩
  by_cases k3:c.toNat<32
  ·have e:QbP c= [92,117,48,48,Qf6 (c.toNat/16),Qf6 (c.toNat % 16)]:=by rw[QbP,if_neg k1,if_neg k2'.1,if_neg k2'.2.1,if_neg k2'.2.2.1,if_neg k2'.2.2.2.1,if_neg k2'.2.2.2.2,if_pos k3]
   rw[e]at h hd⊢
   have h1:s.drop (p+1)= [117,48,48,Qf6 (c.toNat/16),Qf6 (c.toNat % 16)]++(t.flatMap QbP++34::r):=Qbf h
   rw[Qha (r:= [117,48,48,Qf6 (c.toNat/16),Qf6 (c.toNat % 16)]++(t.flatMap QbP++34::r)) h (esc_hex k3 h1) (by omega),ih (p+1+5) hd]
   simp only[List.length_cons,List.length_nil];congr 2;omega
  ·have e:QbP c= [c]:=by rw[QbP,if_neg k1,if_neg k2'.1,if_neg k2'.2.1,if_neg k2'.2.2.1,if_neg k2'.2.2.2.1,if_neg k2'.2.2.2.2,if_neg k3]
   rw[e]at h hd⊢
   have hs:QbG s (f+1) acc p=QbG s f (acc++ [c]) (p+1):=by
    conv=>lhs;unfold QbG
    rw[Qch (c:=c) (r:=t.flatMap QbP++34::r) h]
    simp only
    rw[if_neg k3,if_neg (fun e=>k1 (.inl e)),if_neg (fun e=>k1 (.inr e))]
   rw[hs,ih (p+1) hd]
   simp only[List.length_cons,List.length_nil];congr 2;omega
theorem QgX:∀t:Tx,t.length≤(t.flatMap QbP).length
 | []=>Nat.le_refl _
 |c::t=>by
  have:=QgX t
  have h:1≤(QbP c).length:=by
   unfold QbP
   (repeat' split)<;>simp
  rw[List.flatMap_cons,List.length_append,List.length_cons];omega
theorem Qgl{t:Tx}{p:Nat}{r:Tx}(h:s.drop p=QaG t++r):Qcc s p= .ok (t,p+(QaG t).length):=by
 have h0:s.drop p=34::(t.flatMap QbP++34::r):=by rw[h,QaG];simp
 have h1:=Qbf h0
 have hl:(t.flatMap QbP).length≤s.length:=at_len h1
 have hl2:=QgX t
 unfold Qcc
 rw[Qhj h0]
 simp only
 rw[Qib t (s.length+1) [] (p+1) r h1 (by omega)]
 simp[QaG];omega
def valD(ds:Tx)(n:Nat):Nat:=ds.foldl (fun n c=>10*n+(c.toNat-48)) n
theorem Qnt:∀(ds:Tx) (n:Nat),n≤valD ds n
 | [],n=>Nat.le_refl _
 |c::ds,n=>by
  have:=Qnt ds (10*n+(c.toNat-48))
  show n≤valD ds (10*n+(c.toNat-48))
  omega
theorem Qf9{d:Nat}(h:d<10):(UInt8.ofNat (48+d)).toNat=48+d:=by
 rw[UInt8.toNat_ofNat'];omega
theorem dig_ok{d:Nat}(h:d<10):QaS (UInt8.ofNat (48+d))=true:=by
 simp only[QaS,Qf9 h,Bool.and_eq_true,decide_eq_true_eq];omega
theorem Qk6:∀m:Nat,valD (Lib.decDigits m) 0=m∧∀c∈Lib.decDigits m,QaS c=true:=by
 intro m
 induction m using Nat.strongRecOn with
 |_ m ih=>
  by_cases h:m<10
  ·rw[Lib.decDigits_one h]
   refine⟨?_, ?_⟩
   ·show 10*0+((UInt8.ofNat (48+m)).toNat-48)=m
    rw[Qf9 h];omega
   ·intro c hc
    simp only[List.mem_singleton]at hc
    subst hc;exact dig_ok h
  ·obtain⟨h1,h2⟩:=ih (m/10) (by omega)
   have e:Lib.decDigits m=Lib.decDigits (m/10)++ [UInt8.ofNat (48+m % 10)]:=by
    conv=>lhs;rw[Lib.decDigits]
    rw[dif_neg h]
   rw[e]
   refine⟨?_, ?_⟩
   ·rw[valD,List.foldl_append]
    show 10*valD (Lib.decDigits (m/10)) 0+((UInt8.ofNat (48+m % 10)).toNat-48)=m
    rw[h1,Qf9 (by omega)];omega
   ·intro c hc
    rcases List.mem_append.1 hc with hc|hc
    ·exact h2 c hc
    ·simp only[List.mem_singleton]at hc
     subst hc;exact dig_ok (by omega)
theorem dec_head:∀m:Nat,1≤m→∃d ds,Lib.decDigits m=d::ds∧d≠48:=by
 intro m
 induction m using Nat.strongRecOn with
 |_ m ih=>
  intro hm
  by_cases h:m<10
  ·rw[Lib.decDigits_one h]
   refine⟨_,_,rfl,fun e=> ?_⟩
   have:=congrArg UInt8.toNat e
   rw[Qf9 h]at this
   have:(48:UInt8).toNat=48:=rfl
   omega
  ·obtain⟨d,ds,h1,h2⟩:=ih (m/10) (by omega) (by omega)
   have e:Lib.decDigits m=Lib.decDigits (m/10)++ [UInt8.ofNat (48+m % 10)]:=by
    conv=>lhs;rw[Lib.decDigits]
    rw[dif_neg h]
   exact⟨d,_,by rw[e,h1];rfl,h2⟩
theorem Qh8{first:Nat}{r:Tx}(hr:∀c r',r=c::r'→QaS c=false):∀(ds:Tx) (f n p:Nat),(∀c∈ds,QaS c=true)→s.drop p=ds++r→ds.length<f→
  (nx s first≠48∨ds= []∨(p=first∧∃d,ds= [d]))→valD ds n≤9007199254740991→Qbp s first f n p= .ok (valD ds n,p+ds.length)
 |_,0,_,_,_,_,h,_,_=>by omega
 | [],f+1,n,p,_,h,_,_,_=>by
   unfold Qbp
   have hn:QaS (nx s p)=false:=by
    cases r with
    |nil=>rw[nx,at_nil h];rfl
    |cons c r'=>rw[Qft (r:=r') h];exact hr c r' rfl
   rw[hn];rfl
 |d::ds,f+1,n,p,hd,h,hf,hz,hv=>by
  unfold Qbp
  have hn:nx s p=d:=Qft (r:=ds++r) h
  have hle:=Qnt ds (10*n+(d.toNat-48))
  have hv':valD ds (10*n+(d.toNat-48))≤9007199254740991:=hv
  rw[hn,hd d (by simp),if_pos rfl]
  have hnz:¬(p=first+1∧nx s first=48):=by
   rintro⟨h1,h2⟩
   rcases hz with h|h|⟨h,_⟩
   ·exact h h2
   ·cases h
   ·omega
  rw[if_neg hnz,if_pos (by omega),Qh8 hr ds f _ (p+1) (fun c hc=>hd c (by simp[hc])) (Qbf h) (by simpa using hf) (by
   rcases hz with h|h|⟨_,d',h⟩
   ·exact .inl h
   ·cases h
   ·exact .inr (.inl (by simp at h;exact h.2))) hv',List.length_cons]
  show Except.ok (valD ds (10*n+(d.toNat-48)),_)=_
  congr 2;omega
def Ends(r:Tx):Prop:=∀c r',r=c::r'→c=44∨c=93∨c=125
theorem ends_dig{r:Tx}(h:Ends r):∀c r',r=c::r'→QaS c=false:=by
 intro c r' e
 rcases h c r' e with rfl|rfl|rfl<;>rfl
theorem QoR{r:Tx}(h:Ends r){p:Nat}(hp:s.drop p=r):¬(nx s p=46∨nx s p=101∨nx s p=69):=by
 cases r with
 |nil=>rw[nx,at_nil hp];decide
 |cons c r'=>rw[Qft hp];rcases h c r' rfl with rfl|rfl|rfl<;>decide
theorem QkM{n:Int}(h1: -9007199254740991≤n)(h2:n≤9007199254740991){p:Nat}{r:Tx}(hr:Ends r)(h:s.drop p=Lib.itoa n++r):QcB s p= .ok (.mk 2 n [] [] [],p+(Lib.itoa n).length):=by
 have key:∀(m first:Nat),m≤9007199254740991→s.drop first=Lib.decDigits m++r→QaS (nx s first)=true∧nx s first≠45∧Qbp s first (s.length+1) 0 first= .ok (m,first+(Lib.decDigits m).length)∧s.drop (first+(Lib.decDigits m).length)=r:=by
  intro m first hm hd
  obtain⟨v1,v2⟩:=Qk6 m
  have hl:=at_len hd
  obtain⟨d,ds,hh⟩:∃d ds,Lib.decDigits m=d::ds:=by
   cases hx:Lib.decDigits m with
   |nil=>exact absurd hx (by intro hx;have:=congrArg List.length hx;rw[Lib.decDigits]at this;split at this<;>simp at this)
   |cons d ds=>exact⟨d,ds,rfl⟩
  have hnx:nx s first=d:=Qft (r:=ds++r) (by rw[hd,hh];rfl)
  have hdd:QaS d=true:=v2 d (by rw[hh];simp)
  refine⟨by rw[hnx];exact hdd, ?_, ?_,QfM hd⟩
  ·rw[hnx];rintro rfl;cases hdd
  ·have:=Qh8 (s:=s) (first:=first) (ends_dig hr) (Lib.decDigits m) (s.length+1) 0 first v2 hd (by omega) (by
    by_cases h0:m=0
    ·right;right
     refine⟨rfl,48, ?_⟩
     subst h0;rw[Lib.decDigits_one (by omega)];rfl
    ·left
     obtain⟨d',ds',q1,q2⟩:=dec_head m (by omega)
     rw[hh]at q1
     injection q1 with q1
     rw[hnx,q1];exact q2) (by rw[v1];exact hm)
   rw[v1]at this
   exact this
 unfold QcB
 unfold Lib.itoa at h⊢
 by_cases hn:n<0
 ·rw[if_pos hn]at h⊢
  have h0:nx s p=45:=Qft (r:=Lib.decDigits n.natAbs++r) h
  obtain⟨k1,k2,k3,k4⟩:=key n.natAbs (p+1) (by omega) (Qbf h)
  simp only[h0,if_true,k1,k3]
  have h3:¬(9007199254740991<n.natAbs∨nx s (p+1+(Lib.decDigits n.natAbs).length)=46∨nx s (p+1+(Lib.decDigits n.natAbs).length)=101∨nx s (p+1+(Lib.decDigits n.natAbs).length)=69):=by
   have:=QoR hr k4
   intro h
   rcases h with h|h
   ·omega
   ·exact this h
  rw[if_neg h3,if_pos (by omega)]
  have e: -((n.natAbs:Nat):Int)=n:=by omega
  rw[e,List.length_cons]
  congr 2;omega
 ·rw[if_neg hn]at h⊢
  obtain⟨k1,k2,k3,k4⟩:=key n.toNat p (by omega) h
  simp only[k2,if_false,k1,if_true,k3]
  have h3:¬(9007199254740991<n.toNat∨nx s (p+(Lib.decDigits n.toNat).length)=46∨nx s (p+(Lib.decDigits n.toNat).length)=101∨nx s (p+(Lib.decDigits n.toNat).length)=69):=by
   have:=QoR hr k4
   intro h
   rcases h with h|h
   ·omega
   ·exact this h
  rw[if_neg h3,if_neg (by omega)]
  have e:((n.toNat:Nat):Int)=n:=by omega
  rw[e]
end
end Go.Proofs.YtmhmjlfajlpabaaDoor
namespace Go.Proofs.YtmhmjlfajlpabaaDoor
open Go Go.Abs
theorem Qcw{j:J}(h:Qas j=true)(h4:j.k≠4)(h5:j.k≠5):j.ks= []∧j.l= []:=by
 have key:Qbd j=true→j.ks= []∧j.l= []:=fun h=>by
  unfold Qbd at h
  have:=of_decide_eq_true h
  exact⟨List.length_eq_zero_iff.1 (by omega),List.length_eq_zero_iff.1 (by omega)⟩
 unfold Qas at h
 split at h
 ·simp only[Bool.and_eq_true]at h;exact key h.1.1
 split at h
 ·simp only[Bool.and_eq_true]at h;exact key h.1.1
 split at h
 ·simp only[Bool.and_eq_true]at h;exact key h.1.1.1
 split at h
 ·simp only[Bool.and_eq_true]at h;exact key h.1.1
 first
 |cases h
 |(rw[if_neg h4,if_neg h5]at h;cases h)
theorem shaped_k{j:J}(h:Qas j=true):j.k=0∨j.k=1∨j.k=2∨j.k=3∨j.k=4∨j.k=5:=by
 by_cases h0:j.k=0;· exact .inl h0
 by_cases h1:j.k=1;· exact .inr (.inl h1)
 by_cases h2:j.k=2;· exact .inr (.inr (.inl h2))
 by_cases h3:j.k=3;· exact .inr (.inr (.inr (.inl h3)))
 by_cases h4:j.k=4;· exact .inr (.inr (.inr (.inr (.inl h4))))
 by_cases h5:j.k=5;· exact .inr (.inr (.inr (.inr (.inr h5))))
 unfold Qas at h
 rw[if_neg h0,if_neg h1,if_neg h2,if_neg h3,if_neg h4,if_neg h5]at h
 cases h
theorem shaped0{j:J}(h:Qas j=true)(hk:j.k=0):j= .mk 0 0 [] [] []:=by
 obtain⟨h1,h2⟩:=Qcw h (by omega) (by omega)
 unfold Qas at h
 rw[if_pos hk]at h
 simp only[Bool.and_eq_true,decide_eq_true_eq]at h
 exact J.ext hk h.1.2 h.2 h1 h2
theorem shaped1{j:J}(h:Qas j=true)(hk:j.k=1):j= .mk 1 0 [] [] []∨j= .mk 1 1 [] [] []:=by
 obtain⟨h1,h2⟩:=Qcw h (by omega) (by omega)
 unfold Qas at h
 rw[if_neg (by omega),if_pos hk]at h
 simp only[Bool.and_eq_true,Bool.or_eq_true,decide_eq_true_eq]at h
 rcases h.2 with h3|h3
 ·exact .inl (J.ext hk h3 h.1.2 h1 h2)
 ·exact .inr (J.ext hk h3 h.1.2 h1 h2)
theorem shaped2{j:J}(h:Qas j=true)(hk:j.k=2):j= .mk 2 j.n [] [] []∧-9007199254740991≤j.n∧j.n≤9007199254740991:=by
 obtain⟨h1,h2⟩:=Qcw h (by omega) (by omega)
 have h3:=Qe2 h hk
 unfold Qas at h
 rw[if_neg (by omega),if_neg (by omega),if_pos hk]at h
 simp only[Bool.and_eq_true,decide_eq_true_eq]at h
 exact⟨J.ext hk rfl h.1.1.2 h1 h2,h3⟩
theorem QnL{j:J}(h:Qas j=true)(hk:j.k=3):j= .mk 3 0 j.t [] []∧vB j.t=true:=by
 obtain⟨h1,h2⟩:=Qcw h (by omega) (by omega)
 unfold Qas at h
 rw[if_neg (by omega),if_neg (by omega),if_neg (by omega),if_pos hk]at h
 simp only[Bool.and_eq_true,decide_eq_true_eq]at h
 exact⟨J.ext hk h.1.2 rfl h1 h2,h.2⟩
theorem QnK{j:J}(h:Qas j=true)(hk:j.k=4):j= .mk 4 0 [] [] j.l:=by
 unfold Qas at h
 rw[if_neg (by omega),if_neg (by omega),if_neg (by omega),if_neg (by omega),if_pos hk]at h
 simp only[Bool.and_eq_true,decide_eq_true_eq]at h
 exact J.ext hk h.1.2 h.2 (List.length_eq_zero_iff.1 h.1.1) rfl
theorem Qis{j:J}(h:Qas j=true)(hk:j.k=5):j= .mk 5 0 [] j.ks j.l∧j.ks.length=j.l.length∧j.ks.Nodup∧∀k∈j.ks,vB k=true:=by
 have h0:=QbZ h hk
 unfold Qas at h
 rw[if_neg (by omega),if_neg (by omega),if_neg (by omega),if_neg (by omega),if_neg (by omega),if_pos hk]at h
 simp only[Bool.and_eq_true,decide_eq_true_eq,QbE]at h
 exact⟨J.ext hk h.1.1.2 h.1.2 rfl rfl,h0.1,h0.2,fun k hk=>List.all_eq_true.1 h.2.1 k hk⟩
def QeV(c:UInt8):Prop:=Qao c=false∧c≠93∧c≠125∧c≠44
theorem Qmw{c:UInt8}(h:QaS c=true):QeV c:=by
 simp only[QaS,Bool.and_eq_true,decide_eq_true_eq]at h
 refine⟨?_, ?_, ?_, ?_⟩
 ·cases hb:Qao c with
  |false=>rfl
  |true=>
   simp only[Qao,Bool.or_eq_true,beq_iff_eq]at hb
   rcases hb with((rfl|rfl)|rfl)|rfl<;>simp at h
 all_goals(rintro rfl;simp at h)
theorem Qmf(m:Nat):∃d ds,Lib.decDigits m=d::ds∧QaS d=true:=by
 obtain⟨_,v2⟩:=Qk6 m
 cases hx:Lib.decDigits m with
 |nil=>exact absurd hx (by intro hx;have:=congrArg List.length hx;rw[Lib.decDigits]at this;split at this<;>simp at this)
 |cons d ds=>exact⟨d,ds,rfl,v2 d (by rw[hx];simp)⟩
theorem Qct(j:J):∃c r,QaT j=c::r∧QeV c:=by
 rw[QcH]
 split
 ·split
  ·exact⟨116,_,rfl,by unfold QeV;decide⟩
  ·exact⟨102,_,rfl,by unfold QeV;decide⟩
 split
 ·unfold Lib.itoa
  split
  ·exact⟨45,_,rfl,by unfold QeV;decide⟩
  ·obtain⟨d,ds,h1,h2⟩:=Qmf j.n.toNat
   exact⟨d,ds,h1,Qmw h2⟩
 split
 ·exact⟨34,_,rfl,by unfold QeV;decide⟩
 split
 ·exact⟨91,_,rfl,by unfold QeV;decide⟩
 split
 ·exact⟨123,_,rfl,by unfold QeV;decide⟩
 ·exact⟨110,_,rfl,by unfold QeV;decide⟩
theorem QeO(E:List Tx)(c:UInt8)(hc:c=93∨c=125)(r:Tx):Ends (QaY E++c::r):=by
 intro d r' e
 cases E with
 |nil=>simp[QaY]at e;rw[←e.1];rcases hc with rfl|rfl<;>simp
 |cons a E=>simp[QaY]at e;rw[←e.1];simp
section
variable {s:Tx}
theorem Qf5{first:Bool}{c:UInt8}(hc:Qao c=false){p:Nat}{r:Tx}(h:s.drop p=c::r):Qcd s first c p= .ok (false,p+1):=by
 unfold Qcd
 simp only
 rw[Qcn h hc,Qch h,if_pos rfl]
theorem QhW{e c:UInt8}(hc:Qao c=false)(hne:c≠e){p:Nat}{r:Tx}(h:s.drop p=c::r):Qcd s true e p= .ok (true,p):=by
 unfold Qcd
 simp only
 rw[Qcn h hc,Qch h,if_neg (by simpa using hne)];rfl
theorem QjC{e c:UInt8}(he:(44:UInt8)≠e)(hc:Qao c=false){p:Nat}{r:Tx}(h:s.drop p=44::c::r):Qcd s false e p= .ok (true,p+1):=by
 unfold Qcd
 simp only
 rw[Qcn h (by rfl),Qch h,if_neg (by simpa using he),Qhj h]
 simp only[Bool.false_eq_true,if_false]
 rw[Qcn (Qbf h) hc]
theorem QjG{g deep:Nat}{r:Tx}(ih:∀(j:J),goodB g j=true→∀(f p:Nat) (r:Tx),s.drop p=QaT j++r→Ends r→2*(QaT j).length<f→Qa8 s f (deep+1) p= .ok (j,p+(QaT j).length)):
  ∀(l:List J) (f:Nat) (acc:List J) (p:Nat),(∀y∈l,goodB g y=true)→s.drop p=QaY (l.map QaT)++93::r→2*(QaY (l.map QaT)).length<f→
   Qdp s f deep false acc p= .ok (acc++l,p+(QaY (l.map QaT)).length+1)
 |_,0,_,_,_,_,h=>by omega
 | [],f+1,acc,p,_,h,_=>by
   unfold Qdp
   rw[Qf5 (r:=r) (by rfl) h]
   simp[QaY]
 |y::l,f+1,acc,p,hg,h,hf=>by
  obtain⟨c,r',e,hb,h93,_,_⟩:=Qct y
  have h0:s.drop p=44::c::(r'++(QaY (l.map QaT)++93::r)):=by rw[h];simp[QaY,e]
  have h1:s.drop (p+1)=QaT y++(QaY (l.map QaT)++93::r):=by rw[Qbf h0,e];rfl
  have hlen:(QaY ((y::l).map QaT)).length=1+(QaT y).length+(QaY (l.map QaT)).length:=by simp[QaY];omega
  have hv:=ih y (hg y (by simp)) f (p+1) _ h1 (QeO _ 93 (.inl rfl) r) (by omega)
  unfold Qdp
  rw[QjC (by decide) hb h0]
  simp only
  rw[hv]
  simp only
  rw[QjG ih l f (acc++ [y]) (p+1+(QaT y).length) (fun z hz=>hg z (by simp[hz])) (QfM h1) (by omega),hlen]
  simp only[List.append_assoc,List.cons_append,List.nil_append]
  congr 2;omega
theorem QgY{g deep:Nat}{r:Tx}(ih:∀(j:J),goodB g j=true→∀(f p:Nat) (r:Tx),s.drop p=QaT j++r→Ends r→2*(QaT j).length<f→Qa8 s f (deep+1) p= .ok (j,p+(QaT j).length)):
  ∀(ks:List Tx) (l:List J) (f:Nat) (ka:List Tx) (la:List J) (p:Nat),ks.length=l.length→(ka++ks).Nodup→(∀y∈l,goodB g y=true)→s.drop p=QaY (List.zipWith QbS ks (l.map QaT))++125::r→2*(QaY (List.zipWith QbS ks (l.map QaT))).length<f→
   Qa0 s f deep false ka la p= .ok (ka++ks,la++l,p+(QaY (List.zipWith QbS ks (l.map QaT))).length+1)
 |_,_,0,_,_,_,_,_,_,_,h=>by omega
 | [],[],f+1,ka,la,p,_,_,_,h,_=>by
   unfold Qa0
   rw[Qf5 (r:=r) (by rfl) h]
   simp[QaY]
 |k::ks,y::l,f+1,ka,la,p,hl,hn,hg,h,hf=>by
  obtain⟨c,r',e,hb,_,_,_⟩:=Qct y
  obtain⟨R,hR⟩:∃R,QaY (List.zipWith QbS ks (l.map QaT))++125::r=R:=⟨_,rfl⟩
  have h0:s.drop p=44::(QaG k++58::(QaT y++R)):=by rw[h,←hR];simp[QaY,QbS]
  have h0':s.drop p=44::34::(k.flatMap QbP++ [34]++58::(QaT y++R)):=by rw[h0];simp[QaG]
  have h1:s.drop (p+1)=QaG k++58::(QaT y++R):=Qbf h0
  have h2:s.drop (p+1+(QaG k).length)=58::(QaT y++R):=QfM h1
  have h3:s.drop (p+1+(QaG k).length+1)=QaT y++R:=Qbf h2
  have hlen:(QaY (List.zipWith QbS (k::ks) ((y::l).map QaT))).length=1+(QaG k).length+1+(QaT y).length+(QaY (List.zipWith QbS ks (l.map QaT))).length:=by simp[QaY,QbS];omega
  have hv:=ih y (hg y (by simp)) f _ _ h3 (by rw[←hR];exact QeO _ 125 (.inr rfl) r) (by omega)
  have hk:ka.contains k=false:=by
   cases hc:ka.contains k with
   |false=>rfl
   |true=>
    rw[List.contains_iff_mem]at hc
    rw[List.nodup_append]at hn
    exact absurd rfl (hn.2.2 k hc k (by simp))
  unfold Qa0
  rw[QjC (by decide) (by rfl) h0']
  simp only
  rw[Qgl h1]
  simp only[hk,Bool.false_eq_true,if_false]
  rw[Qcn h2 (by rfl),Qhj h2]
  simp only
  rw[Qcn (c:=c) (r:=r'++R) (by rw[h3,e];rfl) hb,hv]
  simp only
  rw[QgY ih ks l f (ka++ [k]) (la++ [y]) _ (by simpa using hl) (by simpa using hn) (fun z hz=>hg z (by simp[hz])) (by rw[QfM h3,←hR]) (by omega),hlen]
  simp only[List.append_assoc,List.cons_append,List.nil_append]
  congr 3;omega
 | [],y::l,_,_,_,_,hl,_,_,_,_=>by simp at hl
 |k::ks,[],_,_,_,_,hl,_,_,_,_=>by simp at hl
theorem Qhu:∀(g:Nat) (j:J),goodB g j=true→∀(deep:Nat),deep+g≤13→∀(f p:Nat) (r:Tx),s.drop p=QaT j++r→Ends r→2*(QaT j).length<f→Qa8 s f deep p= .ok (j,p+(QaT j).length)
 |0,_,h=>by cases h
 |g+1,j,hg=>by
  intro deep hd f p r h hr hf
  obtain⟨hs,ha⟩:=Bool.and_eq_true_iff.1 (show(Qas j&&j.l.all (goodB g))=true from hg)
  have hall:∀y∈j.l,goodB g y=true:=fun y hy=>List.all_eq_true.1 ha y hy
  have ih:∀(y:J),goodB g y=true→∀(f p:Nat) (r:Tx),s.drop p=QaT y++r→Ends r→2*(QaT y).length<f→Qa8 s f (deep+1) p= .ok (y,p+(QaT y).length):=
   fun y hy=>Qhu g y hy (deep+1) (by omega)
  obtain⟨f,rfl⟩:∃f',f=f'+1:=⟨f-1,by omega⟩
  have hne:QaT j≠ []:=by obtain⟨c,r',e,_⟩:=Qct j;rw[e];simp
  unfold Qa8
  rw[if_neg (by omega)]
  rcases shaped_k hs with hk|hk|hk|hk|hk|hk
  ·have e:=shaped0 hs hk
   have he:QaT j= [110,117,108,108]:=by rw[e,QcH];rfl
   rw[he]at h⊢
   have hn:nx s p=110:=Qft (r:= [117,108,108]++r) (by rw[h];rfl)
   rw[hn,QiY _ h,e]
   rfl
  ·have he:(QaT j= [116,114,117,101]∧j= .mk 1 1 [] [] [])∨(QaT j= [102,97,108,115,101]∧j= .mk 1 0 [] [] []):=by
    rcases shaped1 hs hk with e|e
    ·exact .inr ⟨by rw[e,QcH];rfl,e⟩
    ·exact .inl ⟨by rw[e,QcH];rfl,e⟩
   rcases he with⟨he,e⟩|⟨he,e⟩
   ·rw[he]at h⊢
    have hn:nx s p=116:=Qft (r:= [114,117,101]++r) (by rw[h];rfl)
    rw[hn,QiY _ h,e]
    rfl
   ·rw[he]at h⊢
    have hn:nx s p=102:=Qft (r:= [97,108,115,101]++r) (by rw[h];rfl)
    rw[hn,QiY _ h,e]
    rfl
  ·obtain⟨e,h1,h2⟩:=shaped2 hs hk
   have he:QaT j=Lib.itoa j.n:=by rw[QcH,if_neg (by omega),if_pos hk]
   rw[he]at h⊢
   have hnum:=QkM h1 h2 hr h
   have hnx:QaS (nx s p)=true∨nx s p=45:=by
    unfold Lib.itoa at h
    split at h
    ·exact .inr (Qft (r:=Lib.decDigits j.n.natAbs++r) h)
    ·obtain⟨d,ds,q1,q2⟩:=Qmf j.n.toNat
     rw[q1]at h
     exact .inl (by rw[Qft (r:=ds++r) h];exact q2)
   have hn:nx s p≠91∧nx s p≠123∧nx s p≠34∧nx s p≠110∧nx s p≠116∧nx s p≠102:=by
    generalize nx s p=c at hnx
    refine⟨?_, ?_, ?_, ?_, ?_, ?_⟩<;>(rintro rfl;rcases hnx with h|h<;>cases h)
   rw[if_neg hn.1,if_neg hn.2.1,if_neg hn.2.2.1,if_neg hn.2.2.2.1,if_neg hn.2.2.2.2.1,if_neg hn.2.2.2.2.2,hnum,←e]
  ·obtain⟨e,_⟩:=QnL hs hk
   have he:QaT j=QaG j.t:=by rw[QcH,if_neg (by omega),if_neg (by omega),if_pos hk]
   rw[he]at h⊢
   have hn:nx s p=34:=Qft (r:=(j.t.flatMap QbP++ [34])++r) (by rw[h];rfl)
   rw[hn,if_neg (by decide),if_neg (by decide),if_pos rfl,Qgl h]
   simp only
   rw[←e]
  ·have e:=QnK hs hk
   have he:QaT j=91::(commas (j.l.map QaT)++ [93]):=by rw[QcH,if_neg (by omega),if_neg (by omega),if_neg (by omega),if_pos hk]
   rw[he]at h hf⊢
   have h0:s.drop p=91::(commas (j.l.map QaT)++93::r):=by rw[h];simp
   have hn:nx s p=91:=Qft h0
   have hl:Qdp s f deep true [] (p+1)= .ok (j.l,p+(91::(commas (j.l.map QaT)++ [93])).length):=by
    have h1:=Qbf h0
    cases hjl:j.l with
    |nil=>
     rw[hjl]at h1
     obtain⟨f,rfl⟩:∃f',f=f'+1:=⟨f-1,by simp at hf;omega⟩
     unfold Qdp
     rw[Qf5 (r:=r) (by rfl) h1]
     rfl
    |cons y l=>
     rw[hjl]at h1 hf hall
     rw[List.map_cons,QcJ]at h1 hf⊢
     obtain⟨c,r',ey,hb,h93,_,_⟩:=Qct y
     rw[List.append_assoc]at h1
     have hlen:(91::(QaT y++QaY (l.map QaT)++ [93])).length=2+(QaT y).length+(QaY (l.map QaT)).length:=by simp;omega
     rw[hlen]at hf⊢
     obtain⟨f,rfl⟩:∃f',f=f'+1:=⟨f-1,by omega⟩
     have hv:=ih y (hall y (by simp)) f (p+1) _ h1 (QeO _ 93 (.inl rfl) r) (by omega)
     unfold Qdp
     rw[QhW (c:=c) (r:=r'++(QaY (l.map QaT)++93::r)) hb h93 (by rw[h1,ey];rfl)]
     simp only
     rw[hv]
     simp only
     rw[List.nil_append,QjG ih l f [y] (p+1+(QaT y).length) (fun z hz=>hall z (by simp[hz])) (QfM h1) (by omega)]
     simp only[List.cons_append,List.nil_append]
     congr 2;omega
   rw[hn,if_pos rfl,hl]
   simp only
   rw[←e]
  ·obtain⟨e,hkl,hnd,_⟩:=Qis hs hk
   have he:QaT j=123::(commas (List.zipWith QbS j.ks (j.l.map QaT))++ [125]):=by rw[QcH,if_neg (by omega),if_neg (by omega),if_neg (by omega),if_neg (by omega),if_pos hk]
   rw[he]at h hf⊢
   have h0:s.drop p=123::(commas (List.zipWith QbS j.ks (j.l.map QaT))++125::r):=by rw[h];simp
   have hn:nx s p=123:=Qft h0
   have hl:Qa0 s f deep true [] [] (p+1)= .ok (j.ks,j.l,p+(123::(commas (List.zipWith QbS j.ks (j.l.map QaT))++ [125])).length):=by
    have h1:=Qbf h0
    cases hjk:j.ks with
    |nil=>
     have hjl:j.l= []:=List.length_eq_zero_iff.1 (by rw[←hkl,hjk];rfl)
     rw[hjk,hjl]at h1
     rw[hjl]
     obtain⟨f,rfl⟩:∃f',f=f'+1:=⟨f-1,by simp at hf;omega⟩
     unfold Qa0
     rw[Qf5 (r:=r) (by rfl) h1]
     rfl
    |cons k ks=>
     cases hjl:j.l with
     |nil=>rw[hjk,hjl]at hkl;simp at hkl
     |cons y l=>
      rw[hjk,hjl]at hkl h1 hf
      rw[hjl]at hall
      rw[hjk]at hnd
      rw[List.map_cons,List.zipWith_cons_cons,QcJ]at h1 hf⊢
      obtain⟨c,r',ey,hb,_,_,_⟩:=Qct y
      obtain⟨R,hR⟩:∃R,QaY (List.zipWith QbS ks (l.map QaT))++125::r=R:=⟨_,rfl⟩
      have h1:s.drop (p+1)=QaG k++58::(QaT y++R):=by rw[h1,←hR];simp[QbS]
      have h1':s.drop (p+1)=34::(k.flatMap QbP++ [34]++58::(QaT y++R)):=by rw[h1];simp[QaG]
      have h2:s.drop (p+1+(QaG k).length)=58::(QaT y++R):=QfM h1
      have h3:s.drop (p+1+(QaG k).length+1)=QaT y++R:=Qbf h2
      have hlen:(123::(QbS k (QaT y)++QaY (List.zipWith QbS ks (l.map QaT))++ [125])).length=3+(QaG k).length+(QaT y).length+(QaY (List.zipWith QbS ks (l.map QaT))).length:=by simp[QbS];omega
      rw[hlen]at hf⊢
      obtain⟨f,rfl⟩:∃f',f=f'+1:=⟨f-1,by omega⟩
      have hv:=ih y (hall y (by simp)) f _ _ h3 (by rw[←hR];exact QeO _ 125 (.inr rfl) r) (by omega)
      unfold Qa0
      rw[QhW (by rfl) (by decide) h1']
      simp only
      rw[Qgl h1]
      simp only[List.contains_nil,Bool.false_eq_true,if_false]
      rw[Qcn h2 (by rfl),Qhj h2]
      simp only
      rw[Qcn (c:=c) (r:=r'++R) (by rw[h3,ey];rfl) hb,hv]
      simp only
      rw[List.nil_append,List.nil_append,QgY ih ks l f [k] [y] _ (by simpa using hkl) (by simpa using hnd) (fun z hz=>hall z (by simp[hz])) (by rw[QfM h3,←hR]) (by omega)]
      simp only[List.cons_append,List.nil_append]
      congr 3;omega
   rw[hn,if_neg (by decide),if_pos rfl,hl]
   simp only
   rw[←e]
end
end Go.Proofs.YtmhmjlfajlpabaaDoor
namespace Go.Proofs.YtmhmjlfajlpabaaDoor
open Go Go.Abs Go.Lib
def Let(x:Tx):Prop:=(dc x).2=x.length∧dc x≠(65533,1)
def U8(s:Tx):Prop:=∃X:List Tx,(∀x∈X,Let x)∧s=X.flatten
set_option maxRecDepth 100000 in
theorem Qj4(N a b c d:Nat):∀r,decodeN r.2 a (if 1<r.2 then b else 0) (if 2<r.2 then c else 0) (if 3<r.2 then d else 0)=r→r≠(65533,1)→r.2≤N→decodeN N a b c d=r:=by
 rintro⟨v,k⟩ e hr hN
 simp only at e hN
 have hk:k=1∨k=2∨k=3∨k=4:=by
  have:=congrArg Prod.snd e
  unfold decodeN at this
  (repeat' split at this)<;>simp only at this<;>omega
 rcases hk with rfl|rfl|rfl|rfl<;>simp only[Nat.lt_irrefl,Nat.reduceLT,if_true,if_false]at e<;>unfold decodeN at e⊢<;>(repeat' split at e)<;>(first|(simp only[Prod.mk.injEq]at e;omega)|(simp only[Prod.mk.injEq]at e;obtain⟨rfl,_⟩:=e;first|exact absurd rfl hr|(repeat' split)<;>first|rfl|(exfalso;omega)))
theorem let_app{x:Tx}(h:Let x)(r:Tx):dc (x++r)=dc x:=by
 have hx:x≠ []:=by rintro rfl;have:=QeP [];rw[h.1]at this;simp at this
 have e:dc x=decodeN (dc x).2 (by' (x++r) 0) (if 1<(dc x).2 then by' (x++r) 1 else 0) (if 2<(dc x).2 then by' (x++r) 2 else 0) (if 3<(dc x).2 then by' (x++r) 3 else 0):=by
  have hb:∀j,by' x j=if j<x.length then by' (x++r) j else 0:=fun j=>by
   conv=>lhs;rw[show x=(x++r).take x.length by simp]
   rw[Qhd]
  have h0:0<x.length:=List.length_pos_iff.2 hx
  rw[h.1]
  show decodeN x.length (by' x 0) (by' x 1) (by' x 2) (by' x 3)=_
  rw[hb 0,hb 1,hb 2,hb 3,if_pos h0]
 exact Qj4 _ _ _ _ _ (dc x) e.symm h.2 (by rw[h.1];simp)
theorem let_ne{x:Tx}(h:Let x):x≠ []:=by rintro rfl;have:=QeP [];rw[h.1]at this;simp at this
theorem let_take{s:Tx}(h:s≠ [])(hd:dc s≠(65533,1)):Let (s.take (dc s).2):=by
 have h1:=dc_le h
 exact⟨by rw[QoW h,List.length_take,Nat.min_eq_left h1],by rw[QoW h];exact hd⟩
theorem U8.nil:U8 []:=⟨[],by simp,rfl⟩
theorem U8.cons{x r:Tx}(hx:Let x)(hr:U8 r):U8 (x++r):=by
 obtain⟨X,h1,rfl⟩:=hr
 exact⟨x::X,by simpa using⟨hx,h1⟩,rfl⟩
theorem U8.app{a b:Tx}(ha:U8 a)(hb:U8 b):U8 (a++b):=by
 obtain⟨X,h1,rfl⟩:=ha
 obtain⟨Y,h2,rfl⟩:=hb
 exact⟨X++Y,fun x hx=>(List.mem_append.1 hx).elim (h1 x) (h2 x),by simp⟩
theorem U8.ind{M:Tx→Prop}(h0:M [])(h1:∀x r,Let x→U8 r→M r→M (x++r)):∀ {s:Tx},U8 s→M s:=by
 rintro s ⟨X,h,rfl⟩
 induction X with
 |nil=>exact h0
 |cons x X ih=>
  have hX:∀y∈X,Let y:=fun y hy=>h y (by simp[hy])
  exact h1 x X.flatten (h x (by simp)) ⟨X,hX,rfl⟩ (ih hX)
theorem let_one{c:UInt8}(h:c.toNat<128):Let [c]:=by
 have:dc [c]=(c.toNat,1):=by
  show decodeN 1 c.toNat 0 0 0=_
  unfold decodeN;rw[if_pos h]
 exact⟨by rw[this];rfl,by rw[this];intro e;injection e with e;omega⟩
theorem U8.one{c:UInt8}(h:c.toNat<128){r:Tx}(hr:U8 r):U8 (c::r):=U8.cons (let_one h) hr
theorem U8.ascii:∀ {l:Tx},(∀c∈l,c.toNat<128)→U8 l
 | [],_=>U8.nil
 |c::l,h=>U8.one (h c (by simp)) (U8.ascii fun d hd=>h d (by simp[hd]))
theorem QjH{x:Tx}(h:Let x):(∃c,x= [c]∧c.toNat<128)∨(2≤x.length∧∀c∈x,128≤c.toNat):=by
 have hg:Good x:=⟨let_ne h,h.1⟩
 rcases Qm0 hg with⟨a,rfl,ha,_⟩|⟨a,rfl,ha,hl⟩|⟨a,b,rfl,h1,h2,_⟩|⟨a,b,c,rfl,h1,h2,h3,_⟩|⟨a,b,c,d,rfl,h1,h2,h3,h4,_⟩
 ·exact .inl ⟨a,rfl,ha⟩
 ·exfalso
  unfold let1 at hl
  rw[if_neg h.2]at hl
  injection hl with _ hl;cases hl
 ·refine .inr ⟨by simp, ?_⟩
  intro x hx;simp at hx;rcases hx with rfl|rfl<;>omega
 ·refine .inr ⟨by simp, ?_⟩
  intro x hx;simp at hx;rcases hx with rfl|rfl|rfl<;>omega
 ·refine .inr ⟨by simp, ?_⟩
  intro x hx;simp at hx;rcases hx with rfl|rfl|rfl|rfl<;>omega
theorem U8.step{s:Tx}(h:s≠ []):U8 s↔dc s≠(65533,1)∧U8 (s.drop (dc s).2):=by
 constructor
 ·rintro⟨X,hX,rfl⟩
  cases X with
  |nil=>exact absurd rfl h
  |cons x X=>
   have hx:=hX x (by simp)
   have e:dc (List.flatten (x::X))=dc x:=by rw[List.flatten_cons];exact let_app hx _
   rw[e]
   refine⟨hx.2,X,fun y hy=>hX y (by simp[hy]), ?_⟩
   rw[hx.1,List.flatten_cons,List.drop_left]
 ·rintro⟨h1,h2⟩
  have:=U8.cons (let_take h h1) h2
  rwa [List.take_append_drop]at this
theorem decL_dc(l:List UInt8):Lib.decodeL l=dc l:=by
 have:=Qia l 0
 rw[List.drop_zero]at this
 rw[←this];rfl
theorem Qnr:∀(n:Nat) (s:Tx),s.length≤n→(Lib.validGoD n s=true↔U8 s)
 |0,s,h=>by
  have:s= []:=List.length_eq_zero_iff.1 (by omega)
  subst this
  exact⟨fun _=>U8.nil,fun _=>rfl⟩
 |n+1,s,h=>by
  unfold Lib.validGoD
  by_cases hs:s= []
  ·subst hs;exact⟨fun _=>U8.nil,fun _=>rfl⟩
  ·have h2:=QeP s
   have h3:=List.length_pos_iff.2 hs
   rw[if_neg hs,U8.step hs,decL_dc]
   by_cases hd:dc s=(65533,1)
   ·rw[if_pos (by rw[hd];exact⟨rfl,rfl⟩)]
    exact⟨fun h=>(by cases h),fun h=>absurd hd h.1⟩
   ·rw[if_neg (fun e=>hd (Prod.ext e.1 e.2)),Qnr n _ (by rw[List.length_drop];omega)]
    exact⟨fun h=>⟨hd,h⟩,fun h=>h.2⟩
theorem Qnu(s:Tx):vB s=true↔U8 s:=Qnr _ s (Nat.le_refl _)
theorem Qie:∀(f:Nat) (s:Tx) (p:Nat),s.length-p<f→(Qce s f p= -1↔U8 (s.drop p))∧(-1≤Qce s f p)∧(Qce s f p≠-1→(p:Int)≤Qce s f p∧Qce s f p<s.length)
 |0,_,_,h=>by omega
 |f+1,s,p,h=>by
  unfold Qce
  by_cases hp:p<s.length
  ·have hne:s.drop p≠ []:=by intro e;have:=congrArg List.length e;rw[List.length_drop]at this;simp at this;omega
   rw[if_pos hp,U8.step hne,Qia]
   have h2:=QeP (s.drop p)
   by_cases hd:dc (s.drop p)=(65533,1)
   ·rw[if_pos hd]
    refine⟨⟨fun h=>by omega,fun h=>absurd hd h.1⟩,by omega,fun _=>by omega⟩
   ·rw[if_neg hd]
    obtain⟨i1,i2,i3⟩:=Qie f s (p+(dc (s.drop p)).2) (by omega)
    rw[i1,List.drop_drop]
    exact⟨⟨fun h=>⟨hd,h⟩,fun h=>h.2⟩,i2,fun hne=>by have:=i3 hne;omega⟩
  ·rw[if_neg hp]
   have:s.drop p= []:=List.drop_eq_nil_of_le (by omega)
   rw[this]
   exact⟨⟨fun _=>U8.nil,fun _=>rfl⟩,by omega,fun h=>absurd rfl h⟩
theorem Qld(s:Tx):Qa1 s= -1↔U8 s:=by
 have:=(Qie (s.length+1) s 0 (by omega)).1
 rwa [List.drop_zero]at this
theorem U8.split{a r:Tx}{c:UInt8}(hc:c.toNat<128)(h:U8 (a++c::r)):U8 a∧U8 r:=by
 obtain⟨X,hX,e⟩:=h
 induction X generalizing a with
 |nil=>simp at e
 |cons x X ih=>
  have hx:=hX x (by simp)
  have hX':∀y∈X,Let y:=fun y hy=>hX y (by simp[hy])
  rw[List.flatten_cons]at e
  by_cases hl:x.length≤a.length
  ·obtain⟨a',rfl⟩:∃a',a=x++a':=by
    refine⟨a.drop x.length, ?_⟩
    have e1:=congrArg (List.take x.length) e
    rw[List.take_append_of_le_length hl,List.take_left]at e1
    conv=>lhs;rw[←List.take_append_drop x.length a,e1]
   rw[List.append_assoc]at e
   obtain⟨h1,h2⟩:=ih hX' (List.append_cancel_left e)
   exact⟨U8.cons hx h1,h2⟩
  ·have hmem:c∈x:=by
    have e1:=congrArg (fun l=>l[a.length]?) e
    simp only[List.getElem?_append_right (Nat.le_refl a.length),Nat.sub_self,List.getElem?_cons_zero]at e1
    rw[List.getElem?_append_left (by omega)]at e1
    exact List.mem_of_getElem? e1.symm
   rcases QjH hx with⟨d,rfl,hd⟩|⟨h1,h2⟩
   ·have ha:a= []:=List.length_eq_zero_iff.1 (by have:¬1≤a.length:=hl;omega)
    subst ha
    simp at e
    exact⟨U8.nil,X,hX',e.2⟩
   ·have:=h2 c hmem;omega
theorem U8.tail{c:UInt8}{r:Tx}(hc:c.toNat<128)(h:U8 (c::r)):U8 r:=(U8.split (a:= []) hc h).2
theorem Qh0:∀n:Fin 16,(Qf6 n.val).toNat<128:=by decide
theorem QoO(c:UInt8)(h:c.toNat<128):∀d∈QbP c,d.toNat<128:=by
 have h1:=Qh0 ⟨c.toNat/16 % 16,by omega⟩
 have h2:=Qh0 ⟨c.toNat % 16,by omega⟩
 have e:c.toNat<32→c.toNat/16 % 16=c.toNat/16:=fun h=>by omega
 intro d hd
 unfold QbP at hd
 split at hd
 ·simp at hd;rcases hd with rfl|rfl
  ·decide
  ·exact h
 split at hd
 ·simp at hd;rcases hd with rfl|rfl<;>decide
 split at hd
 ·simp at hd;rcases hd with rfl|rfl<;>decide
 split at hd
 ·simp at hd;rcases hd with rfl|rfl<;>decide
 split at hd
 ·simp at hd;rcases hd with rfl|rfl<;>decide
 split at hd
 ·simp at hd;rcases hd with rfl|rfl<;>decide
 split at hd
 ·rename_i h32
  simp only[e h32]at h1
  simp at hd
  rcases hd with rfl|rfl|rfl|rfl|rfl
  ·decide
  ·decide
  ·decide
  ·exact h1
  ·exact h2
 ·simp at hd;rw[hd];exact h
theorem esc_big{c:UInt8}(h:128≤c.toNat):QbP c= [c]:=by
 have hne:∀d:UInt8,d.toNat<128→c≠d:=fun d hd e=>by rw[e]at h;omega
 unfold QbP
 rw[if_neg (by intro e;rcases e with e|e<;>exact hne _ (by decide) e),if_neg (hne _ (by decide)),if_neg (hne _ (by decide)),if_neg (hne _ (by decide)),if_neg (hne _ (by decide)),if_neg (hne _ (by decide)),if_neg (by omega)]
theorem Qma:∀ {x:Tx},(∀c∈x,128≤c.toNat)→x.flatMap QbP=x
 | [],_=>rfl
 |c::x,h=>by
  rw[List.flatMap_cons,esc_big (h c (by simp)),Qma fun d hd=>h d (by simp[hd])];rfl
theorem U8.esc{t:Tx}(h:U8 t):U8 (t.flatMap QbP):=by
 refine U8.ind (M:=fun t=>U8 (t.flatMap QbP)) U8.nil (fun x r hx _ ih=> ?_) h
 rw[List.flatMap_append]
 refine U8.app ?_ ih
 rcases QjH hx with⟨c,rfl,hc⟩|⟨_,h2⟩
 ·exact U8.ascii (by simpa using QoO c hc)
 ·rw[Qma h2]
  have:=U8.cons hx U8.nil
  rwa [List.append_nil]at this
theorem U8.quote{t:Tx}(h:U8 t):U8 (QaG t):=U8.one (by decide) (U8.app h.esc (U8.ascii (by simp)))
theorem U8.commas:∀ {E:List Tx},(∀e∈E,U8 e)→U8 (commas E)
 | [],_=>U8.nil
 | [a],h=>h a (by simp)
 |a::b::E,h=>U8.app (h a (by simp)) (U8.one (by decide) (U8.commas fun e he=>h e (by simp[he])))
theorem Qj5(m:Nat):∀c∈Lib.decDigits m,c.toNat<128:=by
 intro c hc
 have:=(Qk6 m).2 c hc
 simp only[QaS,Bool.and_eq_true,decide_eq_true_eq]at this
 omega
theorem U8.itoa(n:Int):U8 (Lib.itoa n):=by
 unfold Lib.itoa
 split
 ·exact U8.one (by decide) (U8.ascii (Qj5 _))
 ·exact U8.ascii (Qj5 _)
theorem QjD:∀ {ks:List Tx} {l:List J} {e:Tx},e∈List.zipWith QbS ks (l.map QaT)→∃k y,k∈ks∧y∈l∧QbS k (QaT y)=e
 | [],_,_,h=>by simp at h
 |_::_,[],_,h=>by simp at h
 |k::ks,y::l,e,h=>by
  rw[List.map_cons,List.zipWith_cons_cons]at h
  rcases List.mem_cons.1 h with rfl|h
  ·exact⟨k,y,by simp,by simp,rfl⟩
  ·obtain⟨k',y',h1,h2,h3⟩:=QjD h
   exact⟨k',y',by simp[h1],by simp[h2],h3⟩
theorem enc_u8:∀(g:Nat) (j:J),goodB g j=true→U8 (QaT j)
 |0,_,h=>by cases h
 |g+1,j,hg=>by
  obtain⟨hs,ha⟩:=Bool.and_eq_true_iff.1 (show(Qas j&&j.l.all (goodB g))=true from hg)
  have hall:∀y∈j.l,U8 (QaT y):=fun y hy=>enc_u8 g y (List.all_eq_true.1 ha y hy)
  rw[QcH]
  split
  ·split<;>exact U8.ascii (by decide)
  split
  ·exact U8.itoa _
  split
  ·rename_i hk
   exact((Qnu _).1 (QnL hs hk).2).quote
  split
  ·refine U8.one (by decide) (U8.app (U8.commas fun e he=> ?_) (U8.ascii (by decide)))
   obtain⟨y,hy,rfl⟩:=List.mem_map.1 he
   exact hall y hy
  split
  ·rename_i hk
   obtain⟨_,_,_,hv⟩:=Qis hs hk
   refine U8.one (by decide) (U8.app (U8.commas fun e he=> ?_) (U8.ascii (by decide)))
   obtain⟨k,y,h1,h2,rfl⟩:=QjD he
   exact U8.app ((Qnu _).1 (hv k h1)).quote (U8.one (by decide) (hall y h2))
  ·exact U8.ascii (by decide)
theorem mk_k(k n:Int)(t:Tx)(ks:List Tx)(l:List J):(J.mk k n t ks l).k=k:=rfl
theorem mk_n(k n:Int)(t:Tx)(ks:List Tx)(l:List J):(J.mk k n t ks l).n=n:=rfl
theorem mk_t(k n:Int)(t:Tx)(ks:List Tx)(l:List J):(J.mk k n t ks l).t=t:=rfl
theorem mk_ks(k n:Int)(t:Tx)(ks:List Tx)(l:List J):(J.mk k n t ks l).ks=ks:=rfl
theorem mk_l(k n:Int)(t:Tx)(ks:List Tx)(l:List J):(J.mk k n t ks l).l=l:=rfl
theorem Qfd(ks:List Tx):((Qay ks).map fun i=>ks.getD i []).Perm ks:=by
 have h:=(Qa6 ks).map fun i=>ks.getD i []
 rwa [QbO]at h
theorem QhO(ks:List Tx)(l:List J)(h:ks.length=l.length):((Qay ks).map fun i=>l.getD i J.zero).Perm l:=by
 have h':=(Qa6 ks).map fun i=>l.getD i J.zero
 rwa [h,QbO]at h'
theorem QgC{j:J}(h5:j.k=5):Qah j= .mk j.k j.n j.t ((Qay j.ks).map fun i=>j.ks.getD i []) ((Qay j.ks).map fun i=>(j.l.map Qah).getD i J.zero):=by rw[QcA,if_pos h5]
theorem Qfe{j:J}(h5:j.k≠5):Qah j= .mk j.k j.n j.t [] (j.l.map Qah):=by rw[QcA,if_neg h5]
theorem order_mk{k n:Int}{t:Tx}{ks:List Tx}{l:List J}(h5:k=5):Qah (.mk k n t ks l)= .mk k n t ((Qay ks).map fun i=>ks.getD i []) ((Qay ks).map fun i=>(l.map Qah).getD i J.zero):=QgC (j:= .mk k n t ks l) h5
theorem Qjt{k n:Int}{t:Tx}{ks:List Tx}{l:List J}(h5:k≠5):Qah (.mk k n t ks l)= .mk k n t [] (l.map Qah):=Qfe (j:= .mk k n t ks l) h5
theorem QmA{ks:List Tx}{l:List J}(hl:ks.length=l.length)(hd:ks.Nodup)(hv:∀k∈ks,vB k=true):Qas (.mk 5 0 [] ks l)=true:=by
 show(decide (ks.length=l.length)&&decide ((0:Int)=0)&&decide (([]:Tx)= [])&&QbE ks)=true
 simp only[Bool.and_eq_true,decide_eq_true_eq,QbE]
 exact⟨⟨⟨hl,trivial⟩,trivial⟩,List.all_eq_true.2 hv,hd⟩
theorem Qh3:∀(g:Nat) (j:J),goodB g j=true→goodB g (Qah j)=true
 |0,_,h=>by cases h
 |g+1,j,hg=>by
  obtain⟨hs,ha⟩:=Bool.and_eq_true_iff.1 (show(Qas j&&j.l.all (goodB g))=true from hg)
  have hall:∀y∈j.l,goodB g (Qah y)=true:=fun y hy=>Qh3 g y (List.all_eq_true.1 ha y hy)
  have hmap:∀z∈j.l.map Qah,goodB g z=true:=fun z hz=>by obtain⟨y,hy,rfl⟩:=List.mem_map.1 hz;exact hall y hy
  show(Qas (Qah j)&&(Qah j).l.all (goodB g))=true
  rw[Bool.and_eq_true_iff]
  by_cases h5:j.k=5
  ·obtain⟨e,hl,hd,hv⟩:=Qis hs h5
   rw[QgC h5]
   have hp:=Qfd j.ks
   have hn:j.n=0:=by rw[e];rfl
   have ht:j.t= []:=by rw[e];rfl
   refine⟨?_,List.all_eq_true.2 fun z hz=>hmap z ((QhO j.ks (j.l.map Qah) (by simpa using hl)).mem_iff.1 hz)⟩
   rw[hn,ht,h5]
   exact QmA (by simp) (hp.nodup_iff.2 hd) fun k hk=>hv k (hp.mem_iff.1 hk)
  ·have hks:j.ks= []:=by
    by_cases h4:j.k=4
    ·rw[QnK hs h4];rfl
    ·exact(Qcw hs h4 h5).1
   rw[Qfe h5]
   refine⟨?_,List.all_eq_true.2 hmap⟩
   unfold Qas at hs⊢
   simp only[Qbd,hks]at hs
   simp only[mk_k,mk_n,mk_t,mk_ks,mk_l,Qbd,List.length_map]
   exact hs
theorem QiW{ks:List Tx}(hd:ks.Nodup):Qay ((Qay ks).map fun i=>ks.getD i [])=List.range ks.length:=by
 have hp:=Qfd ks
 have hl:((Qay ks).map fun i=>ks.getD i []).length=ks.length:=hp.length_eq
 have hg:=Qlc hd
 have hlen:=Qa4 ks
 symm
 refine QeS (hp.nodup_iff.2 hd) (by rw[hl]) ?_
 rw[List.pairwise_iff_getElem]
 intro i j hi hj hij
 simp only[List.length_range]at hi hj
 rw[List.getElem_range,List.getElem_range]
 have h:=List.pairwise_iff_getElem.1 hg i j (by omega) (by omega) hij
 have e:∀i,i<ks.length→Qdb ((Qay ks).map fun i=>ks.getD i []) i=Qdb ks ((Qay ks)[i]?.getD 0):=by
  intro i hi
  unfold Qdb
  simp[List.getD,hlen,hi]
 unfold leK
 rw[e i hi,e j hj,List.getElem?_eq_getElem (by omega),List.getElem?_eq_getElem (by omega)]
 simp only[Option.getD_some]
 exact fun h'=>absurd (List.lt_trans h h') (List.lt_irrefl _)
theorem QhP:∀(g:Nat) (j:J),goodB g j=true→Qah (Qah j)=Qah j
 |0,_,h=>by cases h
 |g+1,j,hg=>by
  obtain⟨hs,ha⟩:=Bool.and_eq_true_iff.1 (show(Qas j&&j.l.all (goodB g))=true from hg)
  have hall:∀y∈j.l,Qah (Qah y)=Qah y:=fun y hy=>QhP g y (List.all_eq_true.1 ha y hy)
  have hmap:∀l:List J,(∀z∈l,z∈j.l.map Qah)→l.map Qah=l:=fun l hl=>by
   conv=>rhs;rw[←List.map_id l]
   refine List.map_congr_left fun z hz=> ?_
   obtain⟨y,hy,rfl⟩:=List.mem_map.1 (hl z hz)
   exact hall y hy
  by_cases h5:j.k=5
  ·obtain⟨e,hl,hd,hv⟩:=Qis hs h5
   have hp:=QhO j.ks (j.l.map Qah) (by simpa using hl)
   have hk:=Qfd j.ks
   rw[QgC h5,order_mk h5]
   rw[QiW hd,hmap _ fun z hz=>hp.mem_iff.1 hz]
   congr 1
   ·rw[←hk.length_eq,QbO]
   ·rw[show j.ks.length=((Qay j.ks).map fun i=>(j.l.map Qah).getD i J.zero).length by rw[List.length_map,Qa4],QbO]
  ·rw[Qfe h5,Qjt h5]
   rw[hmap _ fun z hz=>hz]
theorem Qne{j:J}(h:goodB 12 j=true)(hl:¬16384<(QaT j).length):QaP (QaT j)= .ok (Qah j):=by
 unfold QaP
 have hb:=(Qld _).2 (enc_u8 12 j h)
 obtain⟨c,r,e,hc,_⟩:=Qct j
 have hbl:Qaf (QaT j) 0=0:=Qcn (c:=c) (r:=r) (by rw[List.drop_zero,e]) hc
 have hv:=Qhu (s:=QaT j) 12 j h 1 (by omega) (2*(QaT j).length+3) 0 [] (by simp) (by intro c r' e;cases e) (by omega)
 rw[if_neg hl,hb,if_neg (by omega),hbl,hv]
 simp only
 have hb2:Qaf (QaT j) (0+(QaT j).length)=(QaT j).length:=by rw[Nat.zero_add];exact Qo9 (by simp)
 rw[hb2,if_neg (Nat.lt_irrefl _)]
theorem Qk4{j:J}(h:goodB 12 j=true)(hl:¬16384<(QaT (Qah j)).length):QaP (QaT (Qah j))= .ok (Qah j):=by
 rw[Qne (Qh3 12 j h) hl,QhP 12 j h]
theorem awake_ev(lim:Nat)(H:Qaa):Ev (QaF code Qap) 11 lim [] H (boolD true) H:=QcO (F:=Qo8) rfl rfl
theorem Qg3(lim:Nat)(H:Qaa)(s:Tx):Ev (QaF code Qap) 10 lim [.d (.slice (s.map byteD))] H (QcI (QaP s)) H:=QcO (F:=Qen) rfl (by
 unfold Qen
 simp only[QfL,Qds,Option.map_some])
abbrev jA(j:J):AV:= .d (.agg [.int .i64 j.k,.int .i64 j.n,.str j.t,sD j.ks,jsD j.l])
def At(s:Tx)(p:Nat):Prop:=p≤s.length∧U8 (s.drop p)
def Er(s:Tx)(e:Nat×Nat):Prop:=e.2≤s.length∧1≤e.1
theorem er{s:Tx}{c p:Nat}(h:p≤s.length)(hc:Nat.ble 1 c=true:=by rfl):Er s (c,p):=⟨h,Nat.le_of_ble_eq_true hc⟩
section
variable {s:Tx}
theorem get_drop{p:Nat}{c:UInt8}(h:s[p]? =some c):s.drop p=c::s.drop (p+1):=by
 obtain⟨hp,e⟩:=List.getElem?_eq_some_iff.1 h
 rw[←e];exact List.drop_eq_getElem_cons hp
theorem At.next{p:Nat}{c:UInt8}(h:At s p)(hc:s[p]? =some c)(hs:c.toNat<128):At s (p+1):=by
 refine⟨(List.getElem?_eq_some_iff.1 hc).1, ?_⟩
 have:=h.2
 rw[get_drop hc]at this
 exact this.tail hs
theorem At.run:∀(x:Tx) {p:Nat} {r:Tx},At s p→s.drop p=x++r→(∀c∈x,c.toNat<128)→At s (p+x.length)
 | [],p,r,h,_,_=>h
 |c::x,p,r,h,hd,hx=>by
  have h1:=h.next (Qch (r:=x++r) hd) (hx c (by simp))
  have:=At.run x h1 (Qbf (r:=x++r) hd) fun d hd=>hx d (by simp[hd])
  rw[List.length_cons]
  rwa [show p+(x.length+1)=p+1+x.length by omega]
theorem Qlf{c:UInt8}(h:Qao c=true):c.toNat<128:=by
 simp only[Qao,Bool.or_eq_true,beq_iff_eq]at h
 rcases h with((rfl|rfl)|rfl)|rfl<;>decide
theorem At.blanks{p:Nat}(h:At s p):At s (Qaf s p):=by
 unfold Qaf
 exact h.run ((s.drop p).takeWhile Qao) (List.takeWhile_append_dropWhile).symm fun c hc=>Qlf (by
  have:=List.all_takeWhile (p:=Qao) (l:=s.drop p)
  exact List.all_eq_true.1 this c hc)
theorem At.want{p:Nat}{c:UInt8}(hc:c.toNat<128)(h:At s p):match Qcb s c p with
  |.ok q=>At s q
  |.error e=>Er s e:=by
 unfold Qcb
 by_cases he:s[p]? =some c
 ·rw[if_pos he];exact h.next he hc
 ·rw[if_neg he];exact er h.1
theorem hexV_lt{c:UInt8}{v:Nat}(h:hexV c=some v):v<16∧c.toNat<128:=by
 unfold hexV at h
 split at h
 ·injection h with h;omega
 split at h
 ·injection h with h;omega
 split at h
 ·injection h with h;omega
 ·cases h
theorem Qg6:∀(k n p:Nat),At s p→match QbB s k n p with
  |.ok (m,q)=>At s q∧m<(n+1)*16^k
  |.error e=>Er s e
 |0,n,p,h=>⟨h,by omega⟩
 |k+1,n,p,h=>by
  unfold QbB
  cases hc:s[p]? with
  |none=>exact er h.1
  |some c=>
   simp only
   cases hv:hexV c with
   |none=>exact er h.1
   |some v=>
    obtain⟨h1,h2⟩:=hexV_lt hv
    have:=Qg6 k (16*n+v) (p+1) (h.next hc h2)
    simp only
    cases e:QbB s k (16*n+v) (p+1)with
    |error e'=>rw[e]at this;exact this
    |ok mq=>
     obtain⟨m,q⟩:=mq
     rw[e]at this
     refine⟨this.1,Nat.lt_of_lt_of_le this.2 ?_⟩
     rw[Nat.pow_succ,Nat.mul_comm (16^k) 16,←Nat.mul_assoc]
     exact Nat.mul_le_mul_right _ (by omega)
def Rn(n:Nat):Prop:=n<55296∨(57343<n∧n≤1114111)
theorem At.esc{p:Nat}(h:At s p):match Qec s p with
  |.ok (n,q)=>At s q∧Rn n
  |.error e=>Er s e:=by
 unfold Qec
 cases hc:s[p]? with
 |none=>exact er h.1
 |some c=>
  simp only
  have small:∀ {d:UInt8},c=d→d.toNat<128→At s (p+1):=fun e hd=>h.next hc (by rw[e];exact hd)
  by_cases h1:c=34∨c=92∨c=47
  ·rw[if_pos h1]
   have hc':c.toNat<128:=by rcases h1 with rfl|rfl|rfl<;>decide
   exact⟨h.next hc hc',.inl (by omega)⟩
  rw[if_neg h1]
  by_cases h2:c=98
  ·rw[if_pos h2];exact⟨small h2 (by decide),.inl (by decide)⟩
  rw[if_neg h2]
  by_cases h3:c=102
  ·rw[if_pos h3];exact⟨small h3 (by decide),.inl (by decide)⟩
  rw[if_neg h3]
  by_cases h4:c=110
  ·rw[if_pos h4];exact⟨small h4 (by decide),.inl (by decide)⟩
  rw[if_neg h4]
  by_cases h5:c=114
  ·rw[if_pos h5];exact⟨small h5 (by decide),.inl (by decide)⟩
  rw[if_neg h5]
  by_cases h6:c=116
  ·rw[if_pos h6];exact⟨small h6 (by decide),.inl (by decide)⟩
  rw[if_neg h6]
  by_cases h7:c=117
  ·rw[if_pos h7]
   have g1:=Qg6 4 0 (p+1) (small h7 (by decide))
   cases e:QbB s 4 0 (p+1)with
   |error e'=>rw[e]at g1;exact g1
   |ok nq=>
    obtain⟨n,q⟩:=nq
    rw[e]at g1
    simp only at g1⊢
    by_cases k1:n<55296∨57343<n
    ·rw[if_pos k1]
     refine⟨g1.1, ?_⟩
     unfold Rn;omega
    rw[if_neg k1]
    by_cases k2:56320≤n∨¬(s[q]? =some 92∧s[q+1]? =some 117)
    ·rw[if_pos k2]
     have:=h.1
     refine er (p:=p-1) ?_
     omega
    rw[if_neg k2]
    have k3:s[q]? =some 92∧s[q+1]? =some 117:=Decidable.not_not.1 fun h=>k2 (.inr h)
    have g2:=Qg6 4 0 (q+2) ((g1.1.next k3.1 (by decide)).next k3.2 (by decide))
    cases e2:QbB s 4 0 (q+2)with
    |error e'=>rw[e2]at g2;exact g2
    |ok mz=>
     obtain⟨m,z⟩:=mz
     rw[e2]at g2
     simp only at g2⊢
     by_cases k4:m<56320∨57343<m
     ·rw[if_pos k4]
      have:=h.1
      refine er (p:=p-1) ?_
      omega
     ·rw[if_neg k4]
      refine⟨g2.1,.inr ?_⟩
      omega
  ·rw[if_neg h7];exact er h.1
end
end Go.Proofs.YtmhmjlfajlpabaaDoor
namespace Go.Proofs.YtmhmjlfajlpabaaDoor
open Go Go.Abs Go.Lib
section
variable {s:Tx}
theorem At.more{p:Nat}{c:UInt8}(first:Bool)(hc:c.toNat<128)(h:At s p):match Qcd s first c p with
  |.ok (_,q)=>At s q
  |.error e=>Er s e:=by
 unfold Qcd
 have hb:=h.blanks
 simp only
 by_cases h1:s[Qaf s p]? =some c
 ·rw[if_pos h1];exact hb.next h1 hc
 rw[if_neg h1]
 cases first with
 |true=>exact hb
 |false=>
  rw[if_neg (by simp)]
  have hw:=hb.want (c:=44) (by decide)
  cases e:Qcb s 44 (Qaf s p)with
  |error e'=>rw[e]at hw;exact hw
  |ok q=>rw[e]at hw;exact At.blanks hw
end
end Go.Proofs.YtmhmjlfajlpabaaDoor
namespace Go.Proofs.YtmhmjlfajlpabaaDoor
open Go Go.Abs Go.Lib
structure In (b:Bool) (s s':Tx) (d:Nat):Prop where
 get:∀p,p<s.length→s'[p+d]? =s[p]?
 out:∀c,s'[s.length+d]? =some c→Qao c=true
 len:s.length+d≤s'.length
 low:b=true→∀c,s'[s.length+d]? =some c→c.toNat<32
 rest:b=true→∀c∈s'.drop (s.length+d),Qao c=true
def Sm{α:Type}(b:Bool)(s:Tx)(d:Nat)(x y:Except (Nat×Nat) (α×Nat)):Prop:=match x with
 |.ok (a,q)=>q≤s.length∧(y= .ok (a,q+d)∨(b=false∧∃z,y= .error (12,z)))
 |.error (c,_)=>b=true→∃z,y= .error (c,z)∧d≤z
def Sn{α:Type}(b:Bool)(s:Tx)(d:Nat)(x y:Except (Nat×Nat) (α×Nat)):Prop:=match x with
 |.ok (a,q)=>q≤s.length∧y= .ok (a,q+d)
 |.error (c,_)=>b=true→∃z,y= .error (c,z)∧d≤z
def So(b:Bool)(s:Tx)(d:Nat)(x y:Except (Nat×Nat) Nat):Prop:=match x with
 |.ok q=>q≤s.length∧y= .ok (q+d)
 |.error (c,_)=>b=true→∃z,y= .error (c,z)∧d≤z
theorem Qd6{s:Tx}{p:Nat}(h:s.length≤p):s[p]? =none:=List.getElem?_eq_none h
theorem so_err{b:Bool}{s:Tx}{d c x z:Nat}(h:d≤z):So b s d (.error (c,x)) (.error (c,z)):=fun _=>⟨z,rfl,h⟩
theorem Qfz{α:Type}{b:Bool}{s:Tx}{d c x z:Nat}(h:d≤z):Sn (α:=α) b s d (.error (c,x)) (.error (c,z)):=fun _=>⟨z,rfl,h⟩
section
variable {b:Bool} {s s':Tx} {d:Nat}
theorem In.iff(h:In b s s' d){p:Nat}(hp:p≤s.length){c:UInt8}(hc:Qao c=false):s'[p+d]? =some c↔s[p]? =some c:=by
 by_cases hl:p<s.length
 ·rw[h.get p hl]
 ·have e:p=s.length:=by omega
  subst e
  rw[Qd6 (Nat.le_refl _)]
  constructor
  ·intro h1;have:=h.out c h1;rw[hc]at this;cases this
  ·intro h1;cases h1
theorem In.nx(h:In b s s' d){p:Nat}(hp:p≤s.length):nx s' (p+d)=nx s p∨(nx s p=0∧Qao (nx s' (p+d))=true∧p=s.length):=by
 by_cases hl:p<s.length
 ·left;unfold YtmhmjlfajlpabaaDoor.nx;rw[h.get p hl]
 ·have e:p=s.length:=by omega
  subst e
  unfold YtmhmjlfajlpabaaDoor.nx
  rw[Qd6 (s:=s) (Nat.le_refl _)]
  cases hx:s'[s.length+d]? with
  |none=>exact .inl rfl
  |some c=>exact .inr ⟨rfl,h.out c hx,rfl⟩
theorem In.ask(h:In b s s' d){p:Nat}(hp:p≤s.length){P:UInt8→Prop}(h0:∀c,Qao c=true→¬P c)(hz:¬P 0):P (YtmhmjlfajlpabaaDoor.nx s' (p+d))↔P (YtmhmjlfajlpabaaDoor.nx s p):=by
 rcases h.nx hp with e|⟨e,hb,_⟩
 ·rw[e]
 ·rw[e];exact⟨fun h=>absurd h (h0 _ hb),fun h=>absurd h hz⟩
theorem In.want(h:In b s s' d){p:Nat}(hp:p≤s.length){c:UInt8}(hc:Qao c=false):So b s d (Qcb s c p) (Qcb s' c (p+d)):=by
 unfold Qcb
 have hi:=h.iff hp hc
 by_cases hg:s[p]? =some c
 ·rw[if_pos hg,if_pos (hi.2 hg)]
  have:=(List.getElem?_eq_some_iff.1 hg).1
  refine⟨this, ?_⟩
  congr 1;omega
 ·rw[if_neg hg,if_neg (fun h=>hg (hi.1 h))];exact so_err (by omega)
theorem Qmk{c e:UInt8}(he:Qao e=false)(h:Qao c=true):¬c=e:=fun h'=>by rw[h',he]at h;cases h
theorem In.is(h:In b s s' d){p:Nat}(hp:p≤s.length){c:UInt8}(hc:Qao c=false)(h0:c≠0):YtmhmjlfajlpabaaDoor.nx s' (p+d)=c↔YtmhmjlfajlpabaaDoor.nx s p=c:=
 h.ask (P:=fun x=>x=c) hp (fun _=>Qmk hc) (fun h=>h0 h.symm)
end
end Go.Proofs.YtmhmjlfajlpabaaDoor
namespace Go.Proofs.YtmhmjlfajlpabaaDoor
open Go Go.Abs Go.Lib
section
variable {b:Bool} {s s':Tx} {d:Nat}
theorem QmV{c:UInt8}(h:Qao c=true):hexV c=none:=by
 simp only[Qao,Bool.or_eq_true,beq_iff_eq]at h
 rcases h with((rfl|rfl)|rfl)|rfl<;>rfl
theorem In.code(h:In b s s' d):∀(k n p:Nat),p≤s.length→Sn b s d (QbB s k n p) (QbB s' k n (p+d))
 |0,n,p,hp=>⟨hp,rfl⟩
 |k+1,n,p,hp=>by
  unfold QbB
  by_cases hl:p<s.length
  ·rw[h.get p hl]
   obtain⟨c,hc⟩:∃c,s[p]? =some c:=⟨_,List.getElem?_eq_getElem hl⟩
   rw[hc]
   simp only
   cases hv:hexV c with
   |none=>exact Qfz (by omega)
   |some v=>
    have:=In.code h k (16*n+v) (p+1) hl
    rwa [show p+1+d=p+d+1 by omega]at this
  ·have e:p=s.length:=by omega
   subst e
   rw[Qd6 (s:=s) (Nat.le_refl _)]
   simp only
   cases hx:s'[s.length+d]? with
   |none=>exact Qfz (by omega)
   |some c=>simp only[QmV (h.out c hx)];exact Qfz (by omega)
theorem In.esc(h:In b s s' d){p:Nat}(hp:p≤s.length)(h1:1≤p):Sn b s d (Qec s p) (Qec s' (p+d)):=by
 unfold Qec
 by_cases hl:p<s.length
 ·rw[h.get p hl]
  obtain⟨c,hc⟩:∃c,s[p]? =some c:=⟨_,List.getElem?_eq_getElem hl⟩
  rw[hc]
  simp only
  have fin:∀n:Nat,Sn b s d (.ok (n,p+1)) (.ok (n,p+d+1)):=fun n=>⟨hl,by rw[show p+d+1=p+1+d by omega]⟩
  by_cases k1:c=34∨c=92∨c=47
  ·rw[if_pos k1,if_pos k1];exact fin _
  rw[if_neg k1,if_neg k1]
  by_cases k2:c=98
  ·rw[if_pos k2,if_pos k2];exact fin _
  rw[if_neg k2,if_neg k2]
  by_cases k3:c=102
  ·rw[if_pos k3,if_pos k3];exact fin _
  rw[if_neg k3,if_neg k3]
  by_cases k4:c=110
  ·rw[if_pos k4,if_pos k4];exact fin _
  rw[if_neg k4,if_neg k4]
  by_cases k5:c=114
  ·rw[if_pos k5,if_pos k5];exact fin _
  rw[if_neg k5,if_neg k5]
  by_cases k6:c=116
  ·rw[if_pos k6,if_pos k6];exact fin _
  rw[if_neg k6,if_neg k6]
  by_cases k7:c=117
  ·rw[if_pos k7,if_pos k7]
   have g1:=h.code 4 0 (p+1) hl
   rw[show p+1+d=p+d+1 by omega]at g1
   cases e:QbB s 4 0 (p+1)with
   |error x=>
    obtain⟨c',x⟩:=x
    rw[e]at g1
    intro hb
    obtain⟨z,hz,hd⟩:=g1 hb
    exact⟨z,by rw[hz],hd⟩
   |ok nq=>
    obtain⟨n,q⟩:=nq
    rw[e]at g1
    obtain⟨hq,he⟩:=g1
    rw[he]
    simp only
    by_cases m1:n<55296∨57343<n
    ·rw[if_pos m1,if_pos m1];exact⟨hq,rfl⟩
    rw[if_neg m1,if_neg m1]
    have hpair:(s'[q+d]? =some 92∧s'[q+d+1]? =some 117)↔(s[q]? =some 92∧s[q+1]? =some 117):=by
     rw[h.iff hq (by rfl)]
     constructor
     ·rintro⟨a1,a2⟩
      have hql:=(List.getElem?_eq_some_iff.1 a1).1
      exact⟨a1,(h.iff (p:=q+1) hql (by rfl)).1 (by rw[show q+1+d=q+d+1 by omega];exact a2)⟩
     ·rintro⟨a1,a2⟩
      have hql:=(List.getElem?_eq_some_iff.1 a1).1
      exact⟨a1,by rw[show q+d+1=q+1+d by omega];exact(h.iff (p:=q+1) hql (by rfl)).2 a2⟩
    have hcond:(56320≤n∨¬(s'[q+d]? =some 92∧s'[q+d+1]? =some 117))↔(56320≤n∨¬(s[q]? =some 92∧s[q+1]? =some 117)):=by rw[hpair]
    by_cases m2:56320≤n∨¬(s[q]? =some 92∧s[q+1]? =some 117)
    ·rw[if_pos m2,if_pos (hcond.2 m2)];exact Qfz (by omega)
    rw[if_neg m2,if_neg (fun h=>m2 (hcond.1 h))]
    have m3:s[q]? =some 92∧s[q+1]? =some 117:=Decidable.not_not.1 fun h=>m2 (.inr h)
    have hq2:q+2≤s.length:=(List.getElem?_eq_some_iff.1 m3.2).1
    have g2:=h.code 4 0 (q+2) hq2
    rw[show q+2+d=q+d+2 by omega]at g2
    cases e2:QbB s 4 0 (q+2)with
    |error x=>
     obtain⟨c',x⟩:=x
     rw[e2]at g2
     intro hb
     obtain⟨z,hz,hd⟩:=g2 hb
     exact⟨z,by rw[hz],hd⟩
    |ok mz=>
     obtain⟨m,z⟩:=mz
     rw[e2]at g2
     obtain⟨hz,he2⟩:=g2
     rw[he2]
     simp only
     by_cases m4:m<56320∨57343<m
     ·rw[if_pos m4,if_pos m4];exact Qfz (by omega)
     ·rw[if_neg m4,if_neg m4];exact⟨hz,rfl⟩
  ·rw[if_neg k7,if_neg k7];exact Qfz (by omega)
 ·have e:p=s.length:=by omega
  subst e
  rw[Qd6 (s:=s) (Nat.le_refl _)]
  simp only
  cases hx:s'[s.length+d]? with
  |none=>exact Qfz (by omega)
  |some c=>
   have hb:=h.out c hx
   have hne:∀x:UInt8,Qao x=false→c≠x:=fun x hx=>Qmk hx hb
   simp only
   rw[if_neg (by rintro(h|h|h)<;>exact hne _ (by rfl) h),if_neg (hne _ (by rfl)),if_neg (hne _ (by rfl)),if_neg (hne _ (by rfl)),if_neg (hne _ (by rfl)),if_neg (hne _ (by rfl)),if_neg (hne _ (by rfl))]
   exact Qfz (by omega)
end
end Go.Proofs.YtmhmjlfajlpabaaDoor
namespace Go.Proofs.YtmhmjlfajlpabaaDoor
open Go Go.Abs Go.Lib
section
variable {b:Bool} {s s':Tx} {d:Nat}
theorem In.drop(h:In b s s' d){p:Nat}(hp:p≤s.length):s'.drop (p+d)=s.drop p++s'.drop (s.length+d):=by
 apply List.ext_getElem?
 intro i
 rw[List.getElem?_drop]
 by_cases hi:i<(s.drop p).length
 ·rw[List.getElem?_append_left hi,List.getElem?_drop]
  rw[List.length_drop]at hi
  rw[show p+d+i=p+i+d by omega]
  exact h.get (p+i) (by omega)
 ·rw[List.getElem?_append_right (by omega),List.getElem?_drop,List.length_drop]
  rw[List.length_drop]at hi
  congr 1;omega
theorem blk_le{p:Nat}(hp:p≤s.length):Qaf s p≤s.length:=by
 unfold Qaf
 have:=congrArg List.length (List.takeWhile_append_dropWhile (p:=Qao) (l:=s.drop p))
 rw[List.length_append,List.length_drop]at this
 omega
theorem Qkc(p:Nat):p≤Qaf s p:=by unfold Qaf;omega
theorem Qkd{l:Tx}:∀c∈l.takeWhile Qao,Qao c=true:=fun c hc=>by
 have:=List.all_takeWhile (p:=Qao) (l:=l)
 exact List.all_eq_true.1 this c hc
theorem Qi1:∀ {l:Tx},(∀c∈l,Qao c=true)→l.takeWhile Qao=l
 | [],_=>rfl
 |c::l,h=>by rw[List.takeWhile_cons_of_pos (h c (by simp)),Qi1 fun d hd=>h d (by simp[hd])]
theorem In.blanks(h:In b s s' d){p:Nat}(hp:p≤s.length)(hl:Qaf s p<s.length):Qaf s' (p+d)=Qaf s p+d:=by
 have hw:=List.takeWhile_append_dropWhile (p:=Qao) (l:=s.drop p)
 have hlen:=congrArg List.length hw
 rw[List.length_append,List.length_drop]at hlen
 unfold Qaf at hl⊢
 rw[h.drop hp]
 cases hr:(s.drop p).dropWhile Qao with
 |nil=>rw[hr]at hlen;simp at hlen;omega
 |cons c r=>
  have hc:Qao c=false:=by
   have:=List.head?_dropWhile_not Qao (s.drop p)
   rw[hr]at this
   simpa using this
  have e:s.drop p++s'.drop (s.length+d)=(s.drop p).takeWhile Qao++(c::(r++s'.drop (s.length+d))):=by
   conv=>lhs;rw[←hw,hr]
   simp
  rw[e,List.takeWhile_append_of_pos Qkd,List.takeWhile_cons_of_neg (by simp[hc])]
  simp;omega
theorem In.blanks_end(h:In b s s' d)(hb:b=true){p:Nat}(hp:p≤s.length)(hl:Qaf s p=s.length):s'[Qaf s' (p+d)]? =none∧d≤Qaf s' (p+d):=by
 have hw:=List.takeWhile_append_dropWhile (p:=Qao) (l:=s.drop p)
 have hlen:=congrArg List.length hw
 rw[List.length_append,List.length_drop]at hlen
 have hr:(s.drop p).dropWhile Qao= []:=by
  unfold Qaf at hl
  exact List.length_eq_zero_iff.1 (by omega)
 have hall:∀c∈s.drop p,Qao c=true:=by
  rw[hr,List.append_nil]at hw
  rw[←hw];exact Qkd
 have e:Qaf s' (p+d)=s'.length:=by
  unfold Qaf
  rw[Qi1 (by
   rw[h.drop hp]
   intro c hc
   rcases List.mem_append.1 hc with hc|hc
   ·exact hall c hc
   ·exact h.rest hb c hc),List.length_drop]
  have:=h.len
  omega
 rw[e]
 have:=h.len
 exact⟨Qd6 (Nat.le_refl _),by omega⟩
theorem Qlq{p:Nat}(c:UInt8)(h:s[p]? =none):Qcb s c p= .error (11,p):=by
 unfold Qcb;rw[h,if_neg (by simp)]
theorem In.more(h:In b s s' d){p:Nat}(hp:p≤s.length)(first:Bool){c:UInt8}(hc:Qao c=false):match Qcd s first c p with
  |.ok (false,q)=>q≤s.length∧p<q∧Qcd s' first c (p+d)= .ok (false,q+d)
  |.ok (true,q)=>p≤q∧(first=false→p<q)∧q≤s.length∧(q<s.length→Qcd s' first c (p+d)= .ok (true,q+d))∧(q=s.length→b=true→∃z,Qcd s' first c (p+d)= .ok (true,z)∧s'[z]? =none∧d≤z)
  |.error (e,_)=>b=true→∃z,Qcd s' first c (p+d)= .error (e,z)∧d≤z:=by
 unfold Qcd
 simp only
 have hge:=Qkc (s:=s) p
 have hle:=blk_le (s:=s) hp
 by_cases hl:Qaf s p<s.length
 ·rw[h.blanks hp hl]
  have hi:=h.iff (p:=Qaf s p) hle hc
  by_cases h1:s[Qaf s p]? =some c
  ·rw[if_pos h1,if_pos (hi.2 h1)]
   exact⟨hl,by omega,by rw[show Qaf s p+d+1=Qaf s p+1+d by omega]⟩
  rw[if_neg h1,if_neg (fun h=>h1 (hi.1 h))]
  cases first with
  |true=>exact⟨hge,by simp,hle,fun _=>rfl,fun h=>by omega⟩
  |false=>
   simp only[Bool.false_eq_true,if_false]
   have hw:=h.want hle (c:=44) (by rfl)
   cases e:Qcb s 44 (Qaf s p)with
   |error x=>
    obtain⟨c',x⟩:=x
    rw[e]at hw
    intro hb
    obtain⟨z,hz,hd⟩:=hw hb
    exact⟨z,by rw[hz],hd⟩
   |ok q=>
    have hq0:q=Qaf s p+1:=by unfold Qcb at e;split at e<;>simp at e;omega
    rw[e]at hw
    obtain⟨hq,he⟩:=hw
    rw[he]
    simp only
    have g1:=Qkc (s:=s) q
    have g2:=blk_le (s:=s) hq
    refine⟨by omega,fun _=>by omega,g2,fun hlt=>by rw[h.blanks hq hlt],fun heq hb=> ?_⟩
    obtain⟨z1,z2⟩:=h.blanks_end hb hq heq
    exact⟨_,rfl,z1,z2⟩
 ·have heq:Qaf s p=s.length:=by omega
  have hn:s[Qaf s p]? =none:=Qd6 (by omega)
  rw[hn,if_neg (by simp)]
  cases first with
  |true=>
   refine⟨hge,by simp,hle,fun h=>absurd h hl,fun _ hb=> ?_⟩
   obtain⟨z1,z2⟩:=h.blanks_end hb hp heq
   rw[z1,if_neg (by simp)]
   exact⟨_,rfl,z1,z2⟩
  |false=>
   simp only[Bool.false_eq_true,if_false]
   rw[Qlq 44 hn]
   intro hb
   obtain⟨z1,z2⟩:=h.blanks_end hb hp heq
   rw[z1,if_neg (by simp),Qlq 44 z1]
   exact⟨_,rfl,z2⟩
end
end Go.Proofs.YtmhmjlfajlpabaaDoor
namespace Go.Proofs.YtmhmjlfajlpabaaDoor
open Go Go.Abs Go.Lib
def Sf(b:Bool)(s:Tx)(d:Nat)(x y:Except (Nat×Nat) (List Tx×List J×Nat)):Prop:=match x with
 |.ok (k,l,q)=>q≤s.length∧(y= .ok (k,l,q+d)∨(b=false∧∃z,y= .error (12,z)))
 |.error (c,_)=>b=true→∃z,y= .error (c,z)∧d≤z
section
variable {b:Bool} {s s':Tx} {d:Nat}
theorem Sm.deep{α:Type}{x y:Except (Nat×Nat) (α×Nat)}(h:Sm b s d x y)(hb:b=false)(w:Nat):Sm b s d x (.error (12,w)):=by
 cases x with
 |error e=>obtain⟨c,x⟩:=e;intro hb';rw[hb]at hb';cases hb'
 |ok aq=>obtain⟨a,q⟩:=aq;exact⟨h.1,.inr ⟨hb,w,rfl⟩⟩
theorem Sf.deep{x y:Except (Nat×Nat) (List Tx×List J×Nat)}(h:Sf b s d x y)(hb:b=false)(w:Nat):Sf b s d x (.error (12,w)):=by
 cases x with
 |error e=>obtain⟨c,x⟩:=e;intro hb';rw[hb]at hb';cases hb'
 |ok aq=>obtain⟨a,l,q⟩:=aq;exact⟨h.1,.inr ⟨hb,w,rfl⟩⟩
end
end Go.Proofs.YtmhmjlfajlpabaaDoor
namespace Go.Proofs.YtmhmjlfajlpabaaDoor
open Go Go.Abs Go.Lib
abbrev padB(a:Tx):Tx:=32::10::(a++ [9,13])
section
variable {s:Tx}
end
abbrev twoB(a b:Tx):Tx:= [32,91,32]++a++ [32,44,10]++b++ [32,93,32]
end Go.Proofs.YtmhmjlfajlpabaaDoor
namespace Go.Proofs.YtmhmjlfajlpabaaDoor
open Go Go.Abs Go.Lib Go.RowKit
theorem QoD(K:Qaa)(n:Nat)(hn:K.length=n):∃M:AObj→Qaa,(∀o,K++ [o]=M o)∧(∀o,(M o)[n]? =some o)∧(∀o o',(M o).set n o'=M o')∧(∀o,(M o).length=n+1)∧(∀(i:Nat) (o x:AObj),K[i]? =some x→(M o)[i]? =some x):=
 ⟨fun o=>K++ [o],fun _=>rfl,fun o=>by subst hn;simp,fun o o'=>by subst hn;simp,fun o=>by simp[hn],fun i o x h=>by
   have:=(List.getElem?_eq_some_iff.1 h).1
   simp only[]
   rw[List.getElem?_append_left this,h]⟩
end Go.Proofs.YtmhmjlfajlpabaaDoor
namespace Go.Proofs.YtmhmjlfajlpabaaDoor
open Go Go.Abs Go.Lib
def QmQ:Nat→J
 |0=> .mk 4 0 [] [] []
 |n+1=> .mk 4 0 [] [] [QmQ n]
theorem dec12:QaP ([91,91,91,91,91,91,91,91,91,91,91,91]++ [93,93,93,93,93,93,93,93,93,93,93,93])= .ok (QmQ 11):=by kernel_rfl
theorem dec13:QaP ([91,91,91,91,91,91,91,91,91,91,91,91]++ [49]++ [93,93,93,93,93,93,93,93,93,93,93,93])= .error (12,12):=by kernel_rfl
theorem Qol:goodB 12 (QmQ 11)=true:=by kernel_rfl
theorem nest_wt:wt (QmQ 11)≤100:=of_decide_eq_true (by kernel_rfl)
abbrev tJ(t:Tx):J:= .mk 3 0 t [] []
theorem flat_a:∀n,(List.replicate n (97:UInt8)).flatMap QbP=List.replicate n 97
 |0=>rfl
 |n+1=>by rw[List.replicate_succ,List.flatMap_cons,flat_a n];rfl
theorem u8_a(n:Nat):U8 (List.replicate n 97):=U8.ascii fun c h=>by rw[List.eq_of_mem_replicate h];decide
theorem Qks(n:Nat):goodB 12 (tJ (List.replicate n 97))=true:=by
 have:=(Qnu _).2 (u8_a n)
 show(Qas (tJ _)&&([]:List J).all (goodB 11))=true
 show((decide (([]:List Tx).length+([]:List J).length=0)&&decide ((0:Int)=0)&&vB (List.replicate n 97))&&true)=true
 rw[this];rfl
theorem QfX(t:Tx):Qah (tJ t)=tJ t:=by rw[Qjt (by decide)];rfl
theorem Qlx(n:Nat):QaT (tJ (List.replicate n 97))=34::(List.replicate n 97++ [34]):=by
 rw[QcH]
 show QaG (List.replicate n 97)=_
 rw[QaG,flat_a]
theorem tJ_wt(t:Tx)(h:t.length≤20000):wt (tJ t)≤100000000000:=by
 rw[Qe0];omega
theorem enc_a{n:Nat}(h:n≤16382):QcY (tJ (List.replicate n 97))= .ok (34::(List.replicate n 97++ [34])):=by
 unfold QcY
 rw[if_pos (Qks n),QfX,Qlx,if_neg (by simp;omega)]
theorem enc_more{n:Nat}(h:16382<n):QcY (tJ (List.replicate n 97))= .error 13:=by
 unfold QcY
 rw[if_pos (Qks n),QfX,Qlx,if_pos (by simp;omega)]
theorem dec_a{n:Nat}(h:n≤16382):QaP (34::(List.replicate n 97++ [34]))= .ok (tJ (List.replicate n 97)):=by
 have:=Qk4 (Qks n) (by rw[QfX,Qlx];simp;omega)
 rwa [QfX,Qlx]at this
theorem dec_more{s:Tx}(h:16384<s.length):QaP s= .error (13,16384):=by unfold QaP;rw[if_pos h]
end Go.Proofs.YtmhmjlfajlpabaaDoor
namespace Go.Proofs.YtmhmjlfajlpabaaDoor
open Go Go.Abs
def QaN:Code→List Nat→Code
 |c,[]=>c
 |.seq a _,0::l=>QaN a l
 |.cond _ a _,0::l=>QaN a l
 |.block _ a,0::l=>QaN a l
 |.loop a,0::l=>QaN a l
 |.scope a,0::l=>QaN a l
 |.seq _ b,_::l=>QaN b l
 |.cond _ _ b,_::l=>QaN b l
 |c,_=>c
noncomputable def b41:Code:=(Tryd.f41.body).getD .skip
noncomputable def p41_0:Code:=QaN b41 [0]
def q41_0:CCode:= .region [⟨some 2,.move (.c (.d (.str []))),none,[]⟩] none []
theorem k41_0:Qab Tryd.prog Qau [18,39,50,2,0,3,4] p41_0=some q41_0:=by kernel_rfl
noncomputable def p41_1:Code:=QaN b41 [1,0]
def q41_1:CCode:= .region [⟨some 5,.move (.t 0),none,[]⟩,⟨some 6,.call 57 [.t 5,.c (.d (.int (.u8) 34))],none,[]⟩] none [5,6]
theorem k41_1:Qab Tryd.prog Qau [18,39,50,2,0,3,4] p41_1=some q41_1:=by kernel_rfl
noncomputable def p41_2:Code:=QaN b41 [1,1,0]
def q41_2:CCode:= .region [⟨some 3,.new [.d (.nilptr),.fslice []],none,[]⟩] none []
noncomputable def p41_3:Code:=QaN b41 [1,1,1,0,0,0,0]
def q41_3:CCode:= .region [⟨some 7,.move (.t 0),none,[]⟩,⟨some 8,.call 37 [.t 7],none,[]⟩,⟨some 4,.move (.t 8),none,[8]⟩] none [7,8]
theorem k41_3:Qab Tryd.prog Qau [18,39,50,2,0,3,4] p41_3=some q41_3:=by kernel_rfl
noncomputable def p41_6:Code:=QaN b41 [1,1,1,0,0,0,1,0,0]
def q41_6:CCode:= .region [⟨some 19,.move (.t 0),none,[]⟩,⟨some 20,.nilCheck (.t 19),none,[]⟩,⟨some 21,.fieldAddr 1 (.t 20),none,[]⟩,⟨some 22,.load false 1 (.t 21),none,[]⟩,⟨some 23,.move (.t 0),none,[]⟩,⟨some 24,.nilCheck (.t 23),none,[]⟩,⟨some 25,.fieldAddr 0 (.t 24),none,[]⟩,⟨some 26,.load false 1 (.t 25),none,[]⟩,⟨some 27,.len (.str) (.t 26),none,[]⟩,⟨some 28,.bin (.eql) (.none) (.t 22) (.t 27),none,[]⟩,⟨some 29,.move (.t 28),none,[]⟩,⟨some 30,.move (.t 4),some (29,false),[]⟩,⟨some 31,.bin (.lss) (.none) (.t 30) (.c (.d (.int (.u8) 32))),some (29,false),[]⟩,⟨some 32,.pick (.t 29) (.c (boolD true)) (.t 31),none,[]⟩,⟨some 18,.move (.t 32),none,[32]⟩] none [19,20,21,22,23,24,25,26,27,28,29,30,31,32]
theorem k41_6:Qab Tryd.prog Qau [18,39,50,2,0,3,4] p41_6=some q41_6:=by kernel_rfl
noncomputable def p41_7:Code:=QaN b41 [1,1,1,0,0,0,1,0,1,0]
def q41_7:CCode:= .region [⟨some 33,.move (.t 0),none,[]⟩,⟨some 34,.move (.t 0),none,[]⟩,⟨some 35,.nilCheck (.t 34),none,[]⟩,⟨some 36,.fieldAddr 1 (.t 35),none,[]⟩,⟨some 37,.load false 1 (.t 36),none,[]⟩,⟨some 38,.call 26 [.t 33,.c (.d (.int (.i64) 11)),.t 37],none,[]⟩] none [33,34,35,36,37,38]
theorem k41_7:Qab Tryd.prog Qau [18,39,50,2,0,3,4] p41_7=some q41_7:=by kernel_rfl
noncomputable def p41_8:Code:=QaN b41 [1,1,1,0,0,0,1,0,1,1,0]
def q41_8:CCode:= .region [⟨some 40,.move (.t 4),none,[]⟩,⟨some 41,.bin (.eql) (.none) (.t 40) (.c (.d (.int (.u8) 34))),none,[]⟩,⟨some 39,.move (.t 41),none,[41]⟩] none [40,41]
theorem k41_8:Qab Tryd.prog Qau [18,39,50,2,0,3,4] p41_8=some q41_8:=by kernel_rfl
noncomputable def p41_9:Code:=QaN b41 [1,1,1,0,0,0,1,0,1,1,1,0,0]
def q41_9:CCode:= .region [⟨some 42,.move (.t 0),none,[]⟩,⟨some 43,.nilCheck (.t 42),none,[]⟩,⟨some 44,.fieldAddr 1 (.t 43),none,[]⟩,⟨some 45,.load false 1 (.t 44),none,[]⟩,⟨some 46,.bin (.add) (.none) (.t 45) (.c (.d (.int (.i64) 1))),none,[]⟩,⟨some 47,.nilCheck (.t 42),none,[]⟩,⟨some 48,.fieldAddr 1 (.t 47),none,[]⟩,⟨none,.store 1 (.t 48) (.t 46),none,[46]⟩] none [42,43,44,45,46,47,48]
theorem k41_9:Qab Tryd.prog Qau [18,39,50,2,0,3,4] p41_9=some q41_9:=by kernel_rfl
noncomputable def Qdv:Code:=QaN b41 [1,1,1,0,0,0,1,0,1,1,1,0,1,0]
def q41_10:CCode:= .region [⟨some 49,.call 58 [.t 3],none,[]⟩,⟨some 2,.move (.t 49),none,[49]⟩] none [49]
noncomputable def Qn3:Code:=QaN b41 [1,1,1,0,0,0,1,0,1,1,1,1,0]
def QnS:CCode:= .region [⟨some 51,.move (.t 4),none,[]⟩,⟨some 52,.bin (.eql) (.none) (.t 51) (.c (.d (.int (.u8) 92))),none,[]⟩,⟨some 50,.move (.t 52),none,[52]⟩] none [51,52]
theorem k41_11:Qab Tryd.prog Qau [18,39,50,2,0,3,4] Qn3=some QnS:=by kernel_rfl
noncomputable def Qn2:Code:=QaN b41 [1,1,1,0,0,0,1,0,1,1,1,1,1,0,0]
def QnR:CCode:= .region [⟨some 53,.move (.t 0),none,[]⟩,⟨some 54,.nilCheck (.t 53),none,[]⟩,⟨some 55,.fieldAddr 1 (.t 54),none,[]⟩,⟨some 56,.load false 1 (.t 55),none,[]⟩,⟨some 57,.bin (.add) (.none) (.t 56) (.c (.d (.int (.i64) 1))),none,[]⟩,⟨some 58,.nilCheck (.t 53),none,[]⟩,⟨some 59,.fieldAddr 1 (.t 58),none,[]⟩,⟨none,.store 1 (.t 59) (.t 57),none,[57]⟩] none [53,54,55,56,57,58,59]
theorem k41_12:Qab Tryd.prog Qau [18,39,50,2,0,3,4] Qn2=some QnR:=by kernel_rfl
noncomputable def QbT:Code:=QaN b41 [1,1,1,0,0,0,1,0,1,1,1,1,1,0,1]
def QnQ:CCode:= .region [⟨some 60,.move (.t 0),none,[]⟩,⟨some 61,.call 60 [.t 60],none,[]⟩,⟨some 62,.call 59 [.t 3,.t 61],none,[]⟩] none [60,61,62]
theorem k41_13:Qab Tryd.prog Qau [18,39,50,2,0,3,4] QbT=some QnQ:=by kernel_rfl
noncomputable def QgA:Code:=QaN b41 [1,1,1,0,0,0,1,0,1,1,1,1,1,1,0]
def q41_4:CCode:= .region [⟨some 9,.move (.t 4),none,[]⟩,⟨some 10,.call 61 [.t 3,.t 9],none,[]⟩] none [9,10]
noncomputable def p41_5:Code:=QaN b41 [1,1,1,0,0,0,1,0,1,1,1,1,1,1,1]
def q41_5:CCode:= .region [⟨some 11,.move (.t 0),none,[]⟩,⟨some 12,.nilCheck (.t 11),none,[]⟩,⟨some 13,.fieldAddr 1 (.t 12),none,[]⟩,⟨some 14,.load false 1 (.t 13),none,[]⟩,⟨some 15,.bin (.add) (.none) (.t 14) (.c (.d (.int (.i64) 1))),none,[]⟩,⟨some 16,.nilCheck (.t 11),none,[]⟩,⟨some 17,.fieldAddr 1 (.t 16),none,[]⟩,⟨none,.store 1 (.t 17) (.t 15),none,[15]⟩] none [11,12,13,14,15,16,17]
theorem k41_5:Qab Tryd.prog Qau [18,39,50,2,0,3,4] p41_5=some q41_5:=by kernel_rfl
noncomputable def b10:Code:=(Tryd.f10.body).getD .skip
noncomputable def p10_0:Code:=QaN b10 [0]
def q10_0:CCode:= .region [⟨some 2,.new [.d (.int (.i64) 0),.d (.int (.i64) 0),.d (.str []),.fslice [],.fslice []],none,[]⟩,⟨some 3,.new [.d (.int (.i64) 0)],none,[]⟩,⟨some 4,.new [.d (.int (.i64) 0)],none,[]⟩] none []
theorem k10_0:Qab Tryd.prog Qau [9,21,40,2,3,4,0,5,6] p10_0=some q10_0:=by kernel_rfl
noncomputable def p10_1:Code:=QaN b10 [1,0,0]
def q10_1:CCode:= .region [⟨some 7,.move (.t 0),none,[]⟩,⟨some 8,.len (.sl) (.t 7),none,[]⟩,⟨some 9,.bin (.gtr) (.none) (.t 8) (.c (.d (.int (.i64) 16384))),none,[]⟩] none [7,8]
theorem k10_1:Qab Tryd.prog Qau [9,21,40,2,3,4,0,5,6] p10_1=some q10_1:=by kernel_rfl
noncomputable def p10_2:Code:=QaN b10 [1,0,1,0,0]
def q10_2:CCode:= .region [⟨some 10,.build [.d (.int (.i64) 0),.d (.int (.i64) 0),.d (.str []),.fslice [],.fslice []] [],none,[]⟩,⟨none,.store 5 (.t 2) (.t 10),none,[10]⟩,⟨none,.store 1 (.t 3) (.c (.d (.int (.i64) 13))),none,[]⟩,⟨none,.store 1 (.t 4) (.c (.d (.int (.i64) 16384))),none,[]⟩] none [10]
theorem k10_2:Qab Tryd.prog Qau [9,21,40,2,3,4,0,5,6] p10_2=some q10_2:=by kernel_rfl
noncomputable def p10_3:Code:=QaN b10 [1,1,0]
def q10_3:CCode:= .region [⟨some 11,.move (.t 0),none,[]⟩,⟨some 12,.toStr (.t 11),none,[]⟩,⟨some 13,.build [.d (.str []),.d (.int (.i64) 0)] [(0,1,.t 12)],none,[]⟩,⟨some 14,.box (.t 13),none,[]⟩,⟨some 5,.move (.t 14),none,[14]⟩] none [11,12,13,14]
theorem k10_3:Qab Tryd.prog Qau [9,21,40,2,3,4,0,5,6] p10_3=some q10_3:=by kernel_rfl
noncomputable def p10_4:Code:=QaN b10 [1,1,1,0,0]
def q10_4:CCode:= .region [⟨some 15,.move (.t 5),none,[]⟩,⟨some 16,.nilCheck (.t 15),none,[]⟩,⟨some 17,.fieldAddr 0 (.t 16),none,[]⟩,⟨some 18,.load false 1 (.t 17),none,[]⟩,⟨some 19,.call 22 [.t 18],none,[]⟩,⟨some 6,.move (.t 19),none,[19]⟩] none [15,16,17,18,19]
theorem k10_4:Qab Tryd.prog Qau [9,21,40,2,3,4,0,5,6] p10_4=some q10_4:=by kernel_rfl
noncomputable def p10_5:Code:=QaN b10 [1,1,1,0,1,0]
def q10_5:CCode:= .region [⟨some 20,.move (.t 6),none,[]⟩,⟨some 21,.bin (.geq) (.none) (.t 20) (.c (.d (.int (.i64) 0))),none,[]⟩] none [20]
theorem k10_5:Qab Tryd.prog Qau [9,21,40,2,3,4,0,5,6] p10_5=some q10_5:=by kernel_rfl
noncomputable def p10_6:Code:=QaN b10 [1,1,1,0,1,1,0,0]
def q10_6:CCode:= .region [⟨some 22,.build [.d (.int (.i64) 0),.d (.int (.i64) 0),.d (.str []),.fslice [],.fslice []] [],none,[]⟩,⟨some 23,.move (.t 6),none,[6]⟩,⟨none,.store 5 (.t 2) (.t 22),none,[22]⟩,⟨none,.store 1 (.t 3) (.c (.d (.int (.i64) 10))),none,[]⟩,⟨none,.store 1 (.t 4) (.t 23),none,[23]⟩] none [22,23]
theorem k10_6:Qab Tryd.prog Qau [9,21,40,2,3,4,0,5,6] p10_6=some q10_6:=by kernel_rfl
noncomputable def QgB:Code:=QaN b10 [1,1,1,1,0]
noncomputable def p10_8:Code:=QaN b10 [1,1,1,1,1,0]
def q10_8:CCode:= .region [⟨some 25,.move (.t 5),none,[]⟩,⟨some 26,.call 24 [.t 25],none,[]⟩] none [25,26]
theorem k10_8:Qab Tryd.prog Qau [9,21,40,2,3,4,0,5,6] p10_8=some q10_8:=by kernel_rfl
noncomputable def QeB:Code:=QaN b10 [1,1,1,1,1,1,0]
def q10_9:CCode:= .region [⟨some 27,.move (.t 5),none,[]⟩,⟨some 28,.call 25 [.t 27,.c (.d (.int (.i64) 1))],none,[]⟩,⟨none,.store 5 (.t 2) (.t 28),none,[28]⟩] none [27,28]
theorem k10_9:Qab Tryd.prog Qau [9,21,40,2,3,4,0,5,6] QeB=some q10_9:=by kernel_rfl
noncomputable def QlN:Code:=QaN b10 [1,1,1,1,1,1,1,0]
def QnW:CCode:= .region [⟨some 29,.move (.t 5),none,[]⟩,⟨some 30,.call 24 [.t 29],none,[]⟩] none [29,30]
theorem k10_10:Qab Tryd.prog Qau [9,21,40,2,3,4,0,5,6] QlN=some QnW:=by kernel_rfl
noncomputable def QlM:Code:=QaN b10 [1,1,1,1,1,1,1,1,0,0]
def QnV:CCode:= .region [⟨some 31,.move (.t 5),none,[]⟩,⟨some 32,.nilCheck (.t 31),none,[]⟩,⟨some 33,.fieldAddr 1 (.t 32),none,[]⟩,⟨some 34,.load false 1 (.t 33),none,[]⟩,⟨some 35,.move (.t 5),none,[]⟩,⟨some 36,.nilCheck (.t 35),none,[]⟩,⟨some 37,.fieldAddr 0 (.t 36),none,[]⟩,⟨some 38,.load false 1 (.t 37),none,[]⟩,⟨some 39,.len (.str) (.t 38),none,[]⟩,⟨some 40,.bin (.lss) (.none) (.t 34) (.t 39),none,[]⟩] none [31,32,33,34,35,36,37,38,39]
theorem k10_11:Qab Tryd.prog Qau [9,21,40,2,3,4,0,5,6] QlM=some QnV:=by kernel_rfl
noncomputable def QbD:Code:=QaN b10 [1,1,1,1,1,1,1,1,0,1,0]
def q10_12:CCode:= .region [⟨some 41,.move (.t 5),none,[]⟩,⟨some 42,.move (.t 5),none,[]⟩,⟨some 43,.nilCheck (.t 42),none,[]⟩,⟨some 44,.fieldAddr 1 (.t 43),none,[]⟩,⟨some 45,.load false 1 (.t 44),none,[]⟩,⟨some 46,.call 26 [.t 41,.c (.d (.int (.i64) 16)),.t 45],none,[]⟩] none [41,42,43,44,45,46]
noncomputable def QlL:Code:=QaN b10 [1,1,1,1,1,1,1,1,1,0]
def QnU:CCode:= .region [⟨some 47,.load true 5 (.t 2),none,[]⟩,⟨some 48,.call 27 [.t 47],none,[]⟩,⟨none,.store 5 (.t 2) (.t 48),none,[48]⟩,⟨none,.store 1 (.t 3) (.c (.d (.int (.i64) 0))),none,[]⟩,⟨none,.store 1 (.t 4) (.c (.d (.int (.i64) 0))),none,[]⟩] none [47,48]
theorem k10_13:Qab Tryd.prog Qau [9,21,40,2,3,4,0,5,6] QlL=some QnU:=by kernel_rfl
noncomputable def b23:Code:=(Tryd.f23.body).getD .skip
noncomputable def p23_0:Code:=QaN b23 [0]
noncomputable def p23_3:Code:=QaN b23 [1,0,0]
def QnT:CCode:= .region [⟨some 8,.bin (.eql) (.iface) (.t 6) (.c (.niliface)),none,[]⟩] none []
theorem k23_3:Qab Tryd.prog Qau [8,10,6,11,4,5,0,1,2] p23_3=some QnT:=by kernel_rfl
noncomputable def p23_4:Code:=QaN b23 [1,0,1,0]
def q23_4:CCode:= .region [⟨some 3,.move (.t 6),none,[6]⟩] none [3]
theorem k23_4:Qab Tryd.prog Qau [8,10,6,11,4,5,0,1,2] p23_4=some q23_4:=by kernel_rfl
noncomputable def Qfa:Code:=QaN b23 [1,0,1,1,0]
noncomputable def p23_6:Code:=QaN b23 [1,0,1,1,1,0,0]
def q23_6:CCode:= .region [⟨some 4,.new [.d (.int (.i64) 0),.d (.int (.i64) 0)],none,[]⟩,⟨none,.store 2 (.t 4) (.t 11),none,[11]⟩] none []
theorem k23_6:Qab Tryd.prog Qau [8,10,6,11,4,5,0,1,2] p23_6=some q23_6:=by kernel_rfl
noncomputable def p23_7:Code:=QaN b23 [1,0,1,1,1,0,1]
def q23_7:CCode:= .region [⟨some 12,.build [.d (.int (.i64) 0),.d (.int (.i64) 0),.d (.str []),.fslice [],.fslice []] [],none,[]⟩,⟨some 13,.fieldAddr 0 (.t 4),none,[]⟩,⟨some 14,.load false 1 (.t 13),none,[]⟩,⟨some 15,.fieldAddr 1 (.t 4),none,[]⟩,⟨some 16,.load false 1 (.t 15),none,[]⟩,⟨none,.store 5 (.t 0) (.t 12),none,[12]⟩,⟨none,.store 1 (.t 1) (.t 14),none,[14]⟩,⟨none,.store 1 (.t 2) (.t 16),none,[16]⟩] (some ⟨[],[],[],some [([],some 5),([2,4],some 6),([4],none)]⟩) [12,13,14,15,16]
theorem k23_7:Qab Tryd.prog Qau [8,10,6,11,4,5,0,1,2] p23_7=some q23_7:=by kernel_rfl
noncomputable def p23_1:Code:=QaN b23 [1,0,1,1,1,1,0]
def q23_1:CCode:= .region [⟨some 5,.move (.t 6),none,[6]⟩] none []
noncomputable def p23_2:Code:=QaN b23 [1,0,1,1,1,1,1]
def q23_2:CCode:= .region [⟨some 7,.move (.t 5),none,[]⟩,⟨none,.panic (.t 7),none,[]⟩] none [7]
noncomputable def b7:Code:=(Tryd.f7.body).getD .skip
noncomputable def p7_0:Code:=QaN b7 [0]
def q7_0:CCode:= .region [⟨some 0,.move (.c (boolD false)),none,[]⟩] none []
theorem k7_0:Qab Tryd.prog Qau [0,1,2,3,4,5,6,7,8,9,10,11,12,13,14,15,16,17,18,19,20,21,23,51,52,53] p7_0=some q7_0:=by kernel_rfl
noncomputable def p7_1:Code:=QaN b7 [1,0]
def q7_1:CCode:= .region [⟨some 1,.move (.c (.d (.str []))),none,[]⟩,⟨some 2,.move (.c (.d (.str []))),none,[]⟩] none []
theorem k7_1:Qab Tryd.prog Qau [0,1,2,3,4,5,6,7,8,9,10,11,12,13,14,15,16,17,18,19,20,21,23,51,52,53] p7_1=some q7_1:=by kernel_rfl
noncomputable def p7_2:Code:=QaN b7 [1,1,0]
def q7_2:CCode:= .seq (.region [⟨some 3,.move (.c (.d (.int (.i64) 0))),none,[]⟩] none []) (.block 0 (.loop (.seq (.seq (.region [⟨some 22,.move (.t 3),none,[]⟩,⟨some 23,.bin (.lss) (.none) (.t 22) (.c (.d (.int (.i64) 12))),none,[]⟩] none [22]) (.cond (.t 23) (.skip) (.exit 0))) (.seq (.block 1 (.seq (.region [⟨some 26,.move (.t 1),none,[]⟩,⟨some 27,.bin (.add) (.none) (.t 26) (.c (.d (.str [91]))),none,[]⟩,⟨some 1,.move (.t 27),none,[27]⟩] none [26,27]) (.region [⟨some 28,.move (.t 2),none,[]⟩,⟨some 29,.bin (.add) (.none) (.t 28) (.c (.d (.str [93]))),none,[]⟩,⟨some 2,.move (.t 29),none,[29]⟩] none [28,29]))) (.region [⟨some 24,.move (.t 3),none,[]⟩,⟨some 25,.bin (.add) (.none) (.t 24) (.c (.d (.int (.i64) 1))),none,[]⟩,⟨some 3,.move (.t 25),none,[25]⟩] none [24,25])))))
theorem k7_2:Qab Tryd.prog Qau [0,1,2,3,4,5,6,7,8,9,10,11,12,13,14,15,16,17,18,19,20,21,23,51,52,53] p7_2=some q7_2:=by kernel_rfl
noncomputable def p7_3:Code:=QaN b7 [1,1,1,0]
def q7_3:CCode:= .region [⟨some 31,.move (.t 1),none,[]⟩,⟨some 32,.move (.t 2),none,[]⟩,⟨some 33,.bin (.add) (.none) (.t 31) (.t 32),none,[]⟩,⟨some 34,.toBytes (.t 33),none,[]⟩,⟨some 35,.call 10 [.t 34],none,[]⟩,⟨some 30,.move (.t 35),none,[]⟩,⟨some 36,.extract (.t 30) 0,none,[]⟩,⟨some 37,.extract (.t 30) 1,none,[]⟩,⟨some 38,.extract (.t 30) 2,none,[]⟩,⟨some 4,.new [.d (.int (.i64) 0),.d (.int (.i64) 0),.d (.str []),.fslice [],.fslice []],none,[]⟩,⟨none,.store 5 (.t 4) (.t 36),none,[36]⟩,⟨some 5,.move (.t 37),none,[37]⟩,⟨some 6,.move (.t 38),none,[38]⟩] none [31,32,33,34,35,30,36,37,38]
theorem k7_3:Qab Tryd.prog Qau [0,1,2,3,4,5,6,7,8,9,10,11,12,13,14,15,16,17,18,19,20,21,23,51,52,53] p7_3=some q7_3:=by kernel_rfl
noncomputable def p7_4:Code:=QaN b7 [1,1,1,1,0]
def q7_4:CCode:= .region [⟨some 40,.move (.t 1),none,[]⟩,⟨some 41,.bin (.add) (.none) (.t 40) (.c (.d (.str [49]))),none,[]⟩,⟨some 42,.move (.t 2),none,[]⟩,⟨some 43,.bin (.add) (.none) (.t 41) (.t 42),none,[]⟩,⟨some 44,.toBytes (.t 43),none,[]⟩,⟨some 45,.call 10 [.t 44],none,[]⟩,⟨some 39,.move (.t 45),none,[]⟩,⟨some 46,.extract (.t 39) 0,none,[]⟩,⟨some 47,.extract (.t 39) 1,none,[]⟩,⟨some 48,.extract (.t 39) 2,none,[]⟩,⟨some 7,.new [.d (.int (.i64) 0),.d (.int (.i64) 0),.d (.str []),.fslice [],.fslice []],none,[]⟩,⟨none,.store 5 (.t 7) (.t 46),none,[46]⟩,⟨some 8,.move (.t 47),none,[47]⟩,⟨some 9,.move (.t 48),none,[48]⟩] none [40,41,42,43,44,45,39,46,47,48]
theorem k7_4:Qab Tryd.prog Qau [0,1,2,3,4,5,6,7,8,9,10,11,12,13,14,15,16,17,18,19,20,21,23,51,52,53] p7_4=some q7_4:=by kernel_rfl
noncomputable def p7_5:Code:=QaN b7 [1,1,1,1,1,0]
def q7_5:CCode:= .region [⟨some 49,.mkSl 1 1 [.d (.int (.u8) 0)] (.c (.d (.int (.i64) 16384))) (.c (.d (.int (.i64) 16384))),none,[]⟩,⟨some 10,.move (.t 49),none,[49]⟩] none [49]
theorem k7_5:Qab Tryd.prog Qau [0,1,2,3,4,5,6,7,8,9,10,11,12,13,14,15,16,17,18,19,20,21,23,51,52,53] p7_5=some q7_5:=by kernel_rfl
noncomputable def p7_6:Code:=QaN b7 [1,1,1,1,1,1,0]
def q7_6:CCode:= .seq (.region [⟨some 50,.move (.t 10),none,[]⟩,⟨some 51,.len (.sl) (.t 50),none,[]⟩,⟨some 52,.move (.c (.d (.int (.i64) 0))),none,[]⟩] none [50]) (.block 2 (.loop (.seq (.region [⟨some 53,.bin (.lss) (.none) (.t 52) (.t 51),none,[]⟩] none []) (.seq (.cond (.t 53) (.skip) (.exit 2)) (.seq (.block 3 (.seq (.region [⟨some 54,.move (.t 52),none,[52]⟩,⟨some 11,.move (.t 54),none,[54]⟩] none [54]) (.region [⟨some 55,.move (.t 10),none,[]⟩,⟨some 56,.move (.t 11),none,[]⟩,⟨some 57,.idxSl 1 (.t 55) (.t 56),none,[]⟩,⟨none,.store 1 (.t 57) (.c (.d (.int (.u8) 97))),none,[]⟩] none [55,56,57]))) (.region [⟨some 58,.bin (.add) (.none) (.t 52) (.c (.d (.int (.i64) 1))),none,[]⟩,⟨some 52,.move (.t 58),none,[]⟩] none [58]))))))
theorem k7_6:Qab Tryd.prog Qau [0,1,2,3,4,5,6,7,8,9,10,11,12,13,14,15,16,17,18,19,20,21,23,51,52,53] p7_6=some q7_6:=by kernel_rfl
noncomputable def p7_7:Code:=QaN b7 [1,1,1,1,1,1,1,0]
def q7_7:CCode:= .region [⟨some 59,.move (.t 10),none,[]⟩,⟨some 60,.idxSl 1 (.t 59) (.c (.d (.int (.i64) 0))),none,[]⟩,⟨none,.store 1 (.t 60) (.c (.d (.int (.u8) 34))),none,[]⟩] none [59,60]
theorem k7_7:Qab Tryd.prog Qau [0,1,2,3,4,5,6,7,8,9,10,11,12,13,14,15,16,17,18,19,20,21,23,51,52,53] p7_7=some q7_7:=by kernel_rfl
noncomputable def p7_8:Code:=QaN b7 [1,1,1,1,1,1,1,1,0]
def q7_8:CCode:= .region [⟨some 61,.move (.t 10),none,[]⟩,⟨some 62,.move (.t 10),none,[]⟩,⟨some 63,.len (.sl) (.t 62),none,[]⟩,⟨some 64,.bin (.sub) (.none) (.t 63) (.c (.d (.int (.i64) 1))),none,[]⟩,⟨some 65,.idxSl 1 (.t 61) (.t 64),none,[]⟩,⟨none,.store 1 (.t 65) (.c (.d (.int (.u8) 34))),none,[]⟩] none [61,62,63,64,65]
theorem k7_8:Qab Tryd.prog Qau [0,1,2,3,4,5,6,7,8,9,10,11,12,13,14,15,16,17,18,19,20,21,23,51,52,53] p7_8=some q7_8:=by kernel_rfl
noncomputable def p7_9:Code:=QaN b7 [1,1,1,1,1,1,1,1,1,0]
def q7_9:CCode:= .region [⟨some 67,.move (.t 10),none,[]⟩,⟨some 68,.call 10 [.t 67],none,[]⟩,⟨some 66,.move (.t 68),none,[]⟩,⟨some 69,.extract (.t 66) 0,none,[]⟩,⟨some 70,.extract (.t 66) 1,none,[]⟩,⟨some 71,.extract (.t 66) 2,none,[]⟩,⟨some 12,.new [.d (.int (.i64) 0),.d (.int (.i64) 0),.d (.str []),.fslice [],.fslice []],none,[]⟩,⟨none,.store 5 (.t 12) (.t 69),none,[69]⟩,⟨some 13,.move (.t 70),none,[70]⟩,⟨some 14,.move (.t 71),none,[71]⟩] none [67,68,66,69,70,71]
theorem k7_9:Qab Tryd.prog Qau [0,1,2,3,4,5,6,7,8,9,10,11,12,13,14,15,16,17,18,19,20,21,23,51,52,53] p7_9=some q7_9:=by kernel_rfl
noncomputable def p7_10:Code:=QaN b7 [1,1,1,1,1,1,1,1,1,1,0]
def q7_10:CCode:= .region [⟨some 73,.load true 5 (.t 12),none,[]⟩,⟨some 74,.call 12 [.t 73],none,[]⟩,⟨some 72,.move (.t 74),none,[]⟩,⟨some 75,.extract (.t 72) 0,none,[]⟩,⟨some 76,.extract (.t 72) 1,none,[]⟩,⟨some 15,.move (.t 75),none,[75]⟩,⟨some 16,.move (.t 76),none,[76]⟩] none [73,74,72,75,76]
theorem k7_10:Qab Tryd.prog Qau [0,1,2,3,4,5,6,7,8,9,10,11,12,13,14,15,16,17,18,19,20,21,23,51,52,53] p7_10=some q7_10:=by kernel_rfl
noncomputable def p7_B:Code:=QaN b7 [1,1,1,1,1,1,1,1,1,1,1]
def q7_B:CCode:= .seq (.region [⟨some 78,.move (.t 10),none,[10]⟩,⟨some 79,.buildSl 1 (.d (.int (.u8) 0)) 1 [(0,.c (.d (.int (.u8) 32)))],none,[]⟩,⟨some 80,.append 1 1 false (.t 78) (.t 79),none,[78]⟩,⟨some 81,.call 10 [.t 80],none,[]⟩,⟨some 77,.move (.t 81),none,[]⟩,⟨some 82,.extract (.t 77) 0,none,[]⟩,⟨some 83,.extract (.t 77) 1,none,[]⟩,⟨some 84,.extract (.t 77) 2,none,[]⟩,⟨some 17,.new [.d (.int (.i64) 0),.d (.int (.i64) 0),.d (.str []),.fslice [],.fslice []],none,[]⟩,⟨none,.store 5 (.t 17) (.t 82),none,[82]⟩,⟨some 18,.move (.t 83),none,[83]⟩,⟨some 19,.move (.t 84),none,[84]⟩] none [78,79,80,81,77,82,83,84]) (.seq (.region [⟨some 85,.fieldAddr 2 (.t 12),none,[]⟩,⟨some 86,.load false 1 (.t 85),none,[]⟩,⟨some 87,.bin (.add) (.none) (.t 86) (.c (.d (.str [97]))),none,[]⟩,⟨some 88,.fieldAddr 2 (.t 12),none,[]⟩,⟨none,.store 1 (.t 88) (.t 87),none,[87]⟩] none [85,86,87,88]) (.seq (.region [⟨some 90,.load true 5 (.t 12),none,[]⟩,⟨some 91,.call 12 [.t 90],none,[]⟩,⟨some 89,.move (.t 91),none,[]⟩,⟨some 92,.extract (.t 89) 0,none,[]⟩,⟨some 93,.extract (.t 89) 1,none,[]⟩,⟨some 20,.move (.t 92),none,[92]⟩,⟨some 21,.move (.t 93),none,[93]⟩] none [90,91,89,92,93]) (.seq (.region [⟨some 94,.move (.t 5),none,[]⟩,⟨some 95,.bin (.eql) (.none) (.t 94) (.c (.d (.int (.i64) 0))),none,[]⟩,⟨some 96,.move (.t 95),none,[]⟩,⟨some 97,.load true 5 (.t 4),some (96,true),[]⟩,⟨some 98,.call 13 [.t 97],some (96,true),[]⟩,⟨some 99,.pick (.t 96) (.t 98) (.c (boolD false)),none,[]⟩,⟨some 100,.move (.t 99),none,[]⟩,⟨some 101,.move (.t 8),some (100,true),[]⟩,⟨some 102,.bin (.eql) (.none) (.t 101) (.c (.d (.int (.i64) 12))),some (100,true),[]⟩,⟨some 103,.pick (.t 100) (.t 102) (.c (boolD false)),none,[]⟩,⟨some 104,.move (.t 103),none,[]⟩,⟨some 105,.move (.t 9),some (104,true),[]⟩,⟨some 106,.bin (.eql) (.none) (.t 105) (.c (.d (.int (.i64) 12))),some (104,true),[]⟩,⟨some 107,.pick (.t 104) (.t 106) (.c (boolD false)),none,[]⟩,⟨some 108,.move (.t 107),none,[]⟩,⟨some 109,.move (.t 13),some (108,true),[]⟩,⟨some 110,.bin (.eql) (.none) (.t 109) (.c (.d (.int (.i64) 0))),some (108,true),[]⟩,⟨some 111,.pick (.t 108) (.t 110) (.c (boolD false)),none,[]⟩,⟨some 112,.move (.t 111),none,[]⟩,⟨some 113,.move (.t 16),some (112,true),[]⟩,⟨some 114,.bin (.eql) (.none) (.t 113) (.c (.d (.int (.i64) 0))),some (112,true),[]⟩,⟨some 115,.pick (.t 112) (.t 114) (.c (boolD false)),none,[]⟩,⟨some 116,.move (.t 115),none,[]⟩,⟨some 117,.move (.t 15),some (116,true),[]⟩,⟨some 118,.toStr (.t 117),some (116,true),[]⟩,⟨some 119,.move (.t 10),some (116,true),[]⟩,⟨some 120,.toStr (.t 119),some (116,true),[]⟩,⟨some 121,.bin (.eql) (.none) (.t 118) (.t 120),some (116,true),[]⟩,⟨some 122,.pick (.t 116) (.t 121) (.c (boolD false)),none,[]⟩,⟨some 123,.move (.t 122),none,[]⟩,⟨some 124,.move (.t 18),some (123,true),[]⟩,⟨some 125,.bin (.eql) (.none) (.t 124) (.c (.d (.int (.i64) 13))),some (123,true),[]⟩,⟨some 126,.pick (.t 123) (.t 125) (.c (boolD false)),none,[]⟩,⟨some 127,.move (.t 126),none,[]⟩,⟨some 128,.move (.t 19),some (127,true),[]⟩,⟨some 129,.bin (.eql) (.none) (.t 128) (.c (.d (.int (.i64) 16384))),some (127,true),[]⟩,⟨some 130,.pick (.t 127) (.t 129) (.c (boolD false)),none,[]⟩,⟨some 131,.move (.t 130),none,[]⟩,⟨some 132,.move (.t 21),some (131,true),[]⟩,⟨some 133,.bin (.eql) (.none) (.t 132) (.c (.d (.int (.i64) 13))),some (131,true),[]⟩,⟨some 134,.pick (.t 131) (.t 133) (.c (boolD false)),none,[]⟩,⟨some 135,.move (.t 134),none,[]⟩,⟨some 136,.call 11 [],some (135,true),[]⟩,⟨some 137,.pick (.t 135) (.t 136) (.c (boolD false)),none,[]⟩,⟨some 0,.move (.t 137),none,[137]⟩] none [94,95,96,97,98,99,100,101,102,103,104,105,106,107,108,109,110,111,112,113,114,115,116,117,118,119,120,121,122,123,124,125,126,127,128,129,130,131,132,133,134,135,136,137]) (.ret))))
theorem k7_B:Qab Tryd.prog Qau [0,1,2,3,4,5,6,7,8,9,10,11,12,13,14,15,16,17,18,19,20,21,23,51,52,53] p7_B=some q7_B:=by kernel_rfl
end Go.Proofs.YtmhmjlfajlpabaaDoor
namespace Go.Proofs.YtmhmjlfajlpabaaDoor
open Go Go.Abs Go.Lib
section
variable (x:Nat→AV)
theorem v7_0:W (QaF code Qap) 0 q7_0 ⟨[x 0,x 1,x 2,x 3,x 4,x 5,x 6,x 7,x 8,x 9,x 10,x 11,x 12,x 13,x 14,x 15,x 16,x 17,x 18,x 19,x 20,x 21,x 22,x 23,x 24,x 25,x 26,x 27,x 28,x 29,x 30,x 31,x 32,x 33,x 34,x 35,x 36,x 37,x 38,x 39,x 40,x 41,x 42,x 43,x 44,x 45,x 46,x 47,x 48,x 49,x 50,x 51,x 52,x 53,x 54,x 55,x 56,x 57,x 58,x 59,x 60,x 61,x 62,x 63,x 64,x 65,x 66,x 67,x 68,x 69,x 70,x 71,x 72,x 73,x 74,x 75,x 76,x 77,x 78,x 79,x 80,x 81,x 82,x 83,x 84,x 85,x 86,x 87,x 88,x 89,x 90,x 91,x 92,x 93,x 94,x 95,x 96,x 97,x 98,x 99,x 100,x 101,x 102,x 103,x 104,x 105,x 106,x 107,x 108,x 109,x 110,x 111,x 112,x 113,x 114,x 115,x 116,x 117,x 118,x 119,x 120,x 121,x 122,x 123,x 124,x 125,x 126,x 127,x 128,x 129,x 130,x 131,x 132,x 133,x 134,x 135,x 136,x 137],[]⟩ (fun e st=>e= .normal∧∃x:Nat→AV,st=⟨[boolD false,x 1,x 2,x 3,x 4,x 5,x 6,x 7,x 8,x 9,x 10,x 11,x 12,x 13,x 14,x 15,x 16,x 17,x 18,x 19,x 20,x 21,x 22,x 23,x 24,x 25,x 26,x 27,x 28,x 29,x 30,x 31,x 32,x 33,x 34,x 35,x 36,x 37,x 38,x 39,x 40,x 41,x 42,x 43,x 44,x 45,x 46,x 47,x 48,x 49,x 50,x 51,x 52,x 53,x 54,x 55,x 56,x 57,x 58,x 59,x 60,x 61,x 62,x 63,x 64,x 65,x 66,x 67,x 68,x 69,x 70,x 71,x 72,x 73,x 74,x 75,x 76,x 77,x 78,x 79,x 80,x 81,x 82,x 83,x 84,x 85,x 86,x 87,x 88,x 89,x 90,x 91,x 92,x 93,x 94,x 95,x 96,x 97,x 98,x 99,x 100,x 101,x 102,x 103,x 104,x 105,x 106,x 107,x 108,x 109,x 110,x 111,x 112,x 113,x 114,x 115,x 116,x 117,x 118,x 119,x 120,x 121,x 122,x 123,x 124,x 125,x 126,x 127,x 128,x 129,x 130,x 131,x 132,x 133,x 134,x 135,x 136,x 137],[]⟩):=by
 unfold q7_0
 refine w_r trivial ?_
 exact⟨by first|exact trivial|exact rfl,Qam _ _ _ rfl⟩
theorem v7_1:W (QaF code Qap) 0 q7_1 ⟨[boolD false,x 1,x 2,x 3,x 4,x 5,x 6,x 7,x 8,x 9,x 10,x 11,x 12,x 13,x 14,x 15,x 16,x 17,x 18,x 19,x 20,x 21,x 22,x 23,x 24,x 25,x 26,x 27,x 28,x 29,x 30,x 31,x 32,x 33,x 34,x 35,x 36,x 37,x 38,x 39,x 40,x 41,x 42,x 43,x 44,x 45,x 46,x 47,x 48,x 49,x 50,x 51,x 52,x 53,x 54,x 55,x 56,x 57,x 58,x 59,x 60,x 61,x 62,x 63,x 64,x 65,x 66,x 67,x 68,x 69,x 70,x 71,x 72,x 73,x 74,x 75,x 76,x 77,x 78,x 79,x 80,x 81,x 82,x 83,x 84,x 85,x 86,x 87,x 88,x 89,x 90,x 91,x 92,x 93,x 94,x 95,x 96,x 97,x 98,x 99,x 100,x 101,x 102,x 103,x 104,x 105,x 106,x 107,x 108,x 109,x 110,x 111,x 112,x 113,x 114,x 115,x 116,x 117,x 118,x 119,x 120,x 121,x 122,x 123,x 124,x 125,x 126,x 127,x 128,x 129,x 130,x 131,x 132,x 133,x 134,x 135,x 136,x 137],[]⟩ (fun e st=>e= .normal∧∃x:Nat→AV,st=⟨[boolD false,.d (.str []),.d (.str []),x 3,x 4,x 5,x 6,x 7,x 8,x 9,x 10,x 11,x 12,x 13,x 14,x 15,x 16,x 17,x 18,x 19,x 20,x 21,x 22,x 23,x 24,x 25,x 26,x 27,x 28,x 29,x 30,x 31,x 32,x 33,x 34,x 35,x 36,x 37,x 38,x 39,x 40,x 41,x 42,x 43,x 44,x 45,x 46,x 47,x 48,x 49,x 50,x 51,x 52,x 53,x 54,x 55,x 56,x 57,x 58,x 59,x 60,x 61,x 62,x 63,x 64,x 65,x 66,x 67,x 68,x 69,x 70,x 71,x 72,x 73,x 74,x 75,x 76,x 77,x 78,x 79,x 80,x 81,x 82,x 83,x 84,x 85,x 86,x 87,x 88,x 89,x 90,x 91,x 92,x 93,x 94,x 95,x 96,x 97,x 98,x 99,x 100,x 101,x 102,x 103,x 104,x 105,x 106,x 107,x 108,x 109,x 110,x 111,x 112,x 113,x 114,x 115,x 116,x 117,x 118,x 119,x 120,x 121,x 122,x 123,x 124,x 125,x 126,x 127,x 128,x 129,x 130,x 131,x 132,x 133,x 134,x 135,x 136,x 137],[]⟩):=by
 unfold q7_1
 refine w_r trivial ?_
 exact⟨by first|exact trivial|exact rfl,Qam _ _ _ rfl⟩
theorem swap2{α:Type}{p:Prop}{q:α→Prop}(h:p)(h2:∃x,q x):∃x,p∧q x:=h2.elim fun x hx=>⟨x,h,hx⟩
theorem swap3{α:Type}{p q:Prop}{r:α→Prop}(h:p)(h1:q)(h2:∃x,r x):∃x,p∧q∧r x:=h2.elim fun x hx=>⟨x,h,h1,hx⟩
theorem QlH(n:Nat)(c:UInt8):List.replicate n c++ [c]=List.replicate (n+1) c:=by rw[List.replicate_succ']
theorem v7_2:W (QaF code Qap) 0 q7_2 ⟨[boolD false,.d (.str []),.d (.str []),x 3,x 4,x 5,x 6,x 7,x 8,x 9,x 10,x 11,x 12,x 13,x 14,x 15,x 16,x 17,x 18,x 19,x 20,x 21,x 22,x 23,x 24,x 25,x 26,x 27,x 28,x 29,x 30,x 31,x 32,x 33,x 34,x 35,x 36,x 37,x 38,x 39,x 40,x 41,x 42,x 43,x 44,x 45,x 46,x 47,x 48,x 49,x 50,x 51,x 52,x 53,x 54,x 55,x 56,x 57,x 58,x 59,x 60,x 61,x 62,x 63,x 64,x 65,x 66,x 67,x 68,x 69,x 70,x 71,x 72,x 73,x 74,x 75,x 76,x 77,x 78,x 79,x 80,x 81,x 82,x 83,x 84,x 85,x 86,x 87,x 88,x 89,x 90,x 91,x 92,x 93,x 94,x 95,x 96,x 97,x 98,x 99,x 100,x 101,x 102,x 103,x 104,x 105,x 106,x 107,x 108,x 109,x 110,x 111,x 112,x 113,x 114,x 115,x 116,x 117,x 118,x 119,x 120,x 121,x 122,x 123,x 124,x 125,x 126,x 127,x 128,x 129,x 130,x 131,x 132,x 133,x 134,x 135,x 136,x 137],[]⟩
  (fun e st=>e= .normal∧∃(O C:Tx) (x:Nat→AV),O=List.replicate 12 91∧C=List.replicate 12 93∧st=⟨[boolD false,.d (.str O),.d (.str C),x 3,x 4,x 5,x 6,x 7,x 8,x 9,x 10,x 11,x 12,x 13,x 14,x 15,x 16,x 17,x 18,x 19,x 20,x 21,x 22,x 23,x 24,x 25,x 26,x 27,x 28,x 29,x 30,x 31,x 32,x 33,x 34,x 35,x 36,x 37,x 38,x 39,x 40,x 41,x 42,x 43,x 44,x 45,x 46,x 47,x 48,x 49,x 50,x 51,x 52,x 53,x 54,x 55,x 56,x 57,x 58,x 59,x 60,x 61,x 62,x 63,x 64,x 65,x 66,x 67,x 68,x 69,x 70,x 71,x 72,x 73,x 74,x 75,x 76,x 77,x 78,x 79,x 80,x 81,x 82,x 83,x 84,x 85,x 86,x 87,x 88,x 89,x 90,x 91,x 92,x 93,x 94,x 95,x 96,x 97,x 98,x 99,x 100,x 101,x 102,x 103,x 104,x 105,x 106,x 107,x 108,x 109,x 110,x 111,x 112,x 113,x 114,x 115,x 116,x 117,x 118,x 119,x 120,x 121,x 122,x 123,x 124,x 125,x 126,x 127,x 128,x 129,x 130,x 131,x 132,x 133,x 134,x 135,x 136,x 137],[]⟩):=by
 unfold q7_2
 refine w_r trivial ?_
 refine Qki (fun k st=>∃(i:Nat) (O C:Tx),i≤12∧k=12-i∧O=List.replicate i 91∧C=List.replicate i 93∧∃x:Nat→AV,st=⟨[boolD false,.d (.str O),.d (.str C),intD i,x 4,x 5,x 6,x 7,x 8,x 9,x 10,x 11,x 12,x 13,x 14,x 15,x 16,x 17,x 18,x 19,x 20,x 21,x 22,x 23,x 24,x 25,x 26,x 27,x 28,x 29,x 30,x 31,x 32,x 33,x 34,x 35,x 36,x 37,x 38,x 39,x 40,x 41,x 42,x 43,x 44,x 45,x 46,x 47,x 48,x 49,x 50,x 51,x 52,x 53,x 54,x 55,x 56,x 57,x 58,x 59,x 60,x 61,x 62,x 63,x 64,x 65,x 66,x 67,x 68,x 69,x 70,x 71,x 72,x 73,x 74,x 75,x 76,x 77,x 78,x 79,x 80,x 81,x 82,x 83,x 84,x 85,x 86,x 87,x 88,x 89,x 90,x 91,x 92,x 93,x 94,x 95,x 96,x 97,x 98,x 99,x 100,x 101,x 102,x 103,x 104,x 105,x 106,x 107,x 108,x 109,x 110,x 111,x 112,x 113,x 114,x 115,x 116,x 117,x 118,x 119,x 120,x 121,x 122,x 123,x 124,x 125,x 126,x 127,x 128,x 129,x 130,x 131,x 132,x 133,x 134,x 135,x 136,x 137],[]⟩) ?_ _ _ ⟨0,[],[],Nat.zero_le _,rfl,rfl,rfl,Qam _ _ _ rfl⟩
 rintro k _ ⟨i,O,C,hi,rfl,hO,hC,x,rfl⟩
 by_cases t0:i<12
 ·have f1:((i:Int)<12)=True:=eq_true (by omega)
  have w1:IntKind.i64.wrap ((i:Int)+1)=((i+1:Nat):Int):=Qef (by omega)
  have l1:O.length+(0+1)≤9223372036854775807:=by rw[hO,List.length_replicate];omega
  have l2:C.length+(0+1)≤9223372036854775807:=by rw[hC,List.length_replicate];omega
  refine w_r (j_ f1 (j_ w1 (j_ l1 l2))) ?_
  exact⟨12-(i+1),by omega,i+1,_,_,by omega,rfl,by rw[hO];exact QlH i 91,by rw[hC];exact QlH i 93,Qam _ _ _ rfl⟩
 ·have f1:((i:Int)<12)=False:=eq_false (by omega)
  obtain rfl:i=12:=by omega
  refine w_r f1 ?_
  exact⟨by first|exact trivial|exact rfl,O,C,swap3 hO hC (Qam _ _ _ rfl)⟩
theorem v7_3{O C S:Tx}{j:J}(hS:O++C=S)(hl:O.length+C.length≤100)(hd:QaP S= .ok j)(hne:S≠ []):W (QaF code Qap) 0 q7_3 ⟨[boolD false,.d (.str O),.d (.str C),x 3,x 4,x 5,x 6,x 7,x 8,x 9,x 10,x 11,x 12,x 13,x 14,x 15,x 16,x 17,x 18,x 19,x 20,x 21,x 22,x 23,x 24,x 25,x 26,x 27,x 28,x 29,x 30,x 31,x 32,x 33,x 34,x 35,x 36,x 37,x 38,x 39,x 40,x 41,x 42,x 43,x 44,x 45,x 46,x 47,x 48,x 49,x 50,x 51,x 52,x 53,x 54,x 55,x 56,x 57,x 58,x 59,x 60,x 61,x 62,x 63,x 64,x 65,x 66,x 67,x 68,x 69,x 70,x 71,x 72,x 73,x 74,x 75,x 76,x 77,x 78,x 79,x 80,x 81,x 82,x 83,x 84,x 85,x 86,x 87,x 88,x 89,x 90,x 91,x 92,x 93,x 94,x 95,x 96,x 97,x 98,x 99,x 100,x 101,x 102,x 103,x 104,x 105,x 106,x 107,x 108,x 109,x 110,x 111,x 112,x 113,x 114,x 115,x 116,x 117,x 118,x 119,x 120,x 121,x 122,x 123,x 124,x 125,x 126,x 127,x 128,x 129,x 130,x 131,x 132,x 133,x 134,x 135,x 136,x 137],[]⟩
  (fun e st=>e= .normal∧∃x:Nat→AV,st=⟨[boolD false,.d (.str O),.d (.str C),x 3,.ptr 0 0,intD 0,x 6,x 7,x 8,x 9,x 10,x 11,x 12,x 13,x 14,x 15,x 16,x 17,x 18,x 19,x 20,x 21,x 22,x 23,x 24,x 25,x 26,x 27,x 28,x 29,x 30,x 31,x 32,x 33,x 34,x 35,x 36,x 37,x 38,x 39,x 40,x 41,x 42,x 43,x 44,x 45,x 46,x 47,x 48,x 49,x 50,x 51,x 52,x 53,x 54,x 55,x 56,x 57,x 58,x 59,x 60,x 61,x 62,x 63,x 64,x 65,x 66,x 67,x 68,x 69,x 70,x 71,x 72,x 73,x 74,x 75,x 76,x 77,x 78,x 79,x 80,x 81,x 82,x 83,x 84,x 85,x 86,x 87,x 88,x 89,x 90,x 91,x 92,x 93,x 94,x 95,x 96,x 97,x 98,x 99,x 100,x 101,x 102,x 103,x 104,x 105,x 106,x 107,x 108,x 109,x 110,x 111,x 112,x 113,x 114,x 115,x 116,x 117,x 118,x 119,x 120,x 121,x 122,x 123,x 124,x 125,x 126,x 127,x 128,x 129,x 130,x 131,x 132,x 133,x 134,x 135,x 136,x 137],[.cells (jC j)]⟩):=by
 unfold q7_3
 have a1:=Qg3 0 [] S
 rw[hd]at a1
 simp only[QcI]at a1
 rw[jd]at a1
 have hT:=toB_ne hne
 have l1:O.length+C.length≤9223372036854775807:=by omega
 refine w_1 a1 (j_ hS (j_ hT l1)) ?_
 exact⟨by first|exact trivial|exact rfl,Qam _ _ _ rfl⟩
theorem v7_4{O C S1 S:Tx}{o:AObj}(h1:O++ [49]=S1)(h2:S1++C=S)(hl:O.length+C.length≤100)(hd:QaP S= .error (12,12))(hne:S≠ []):W (QaF code Qap) 0 q7_4 ⟨[boolD false,.d (.str O),.d (.str C),x 3,.ptr 0 0,intD 0,x 6,x 7,x 8,x 9,x 10,x 11,x 12,x 13,x 14,x 15,x 16,x 17,x 18,x 19,x 20,x 21,x 22,x 23,x 24,x 25,x 26,x 27,x 28,x 29,x 30,x 31,x 32,x 33,x 34,x 35,x 36,x 37,x 38,x 39,x 40,x 41,x 42,x 43,x 44,x 45,x 46,x 47,x 48,x 49,x 50,x 51,x 52,x 53,x 54,x 55,x 56,x 57,x 58,x 59,x 60,x 61,x 62,x 63,x 64,x 65,x 66,x 67,x 68,x 69,x 70,x 71,x 72,x 73,x 74,x 75,x 76,x 77,x 78,x 79,x 80,x 81,x 82,x 83,x 84,x 85,x 86,x 87,x 88,x 89,x 90,x 91,x 92,x 93,x 94,x 95,x 96,x 97,x 98,x 99,x 100,x 101,x 102,x 103,x 104,x 105,x 106,x 107,x 108,x 109,x 110,x 111,x 112,x 113,x 114,x 115,x 116,x 117,x 118,x 119,x 120,x 121,x 122,x 123,x 124,x 125,x 126,x 127,x 128,x 129,x 130,x 131,x 132,x 133,x 134,x 135,x 136,x 137],[o]⟩
  (fun e st=>e= .normal∧∃x:Nat→AV,st=⟨[boolD false,x 1,x 2,x 3,.ptr 0 0,intD 0,x 6,x 7,intD 12,intD 12,x 10,x 11,x 12,x 13,x 14,x 15,x 16,x 17,x 18,x 19,x 20,x 21,x 22,x 23,x 24,x 25,x 26,x 27,x 28,x 29,x 30,x 31,x 32,x 33,x 34,x 35,x 36,x 37,x 38,x 39,x 40,x 41,x 42,x 43,x 44,x 45,x 46,x 47,x 48,x 49,x 50,x 51,x 52,x 53,x 54,x 55,x 56,x 57,x 58,x 59,x 60,x 61,x 62,x 63,x 64,x 65,x 66,x 67,x 68,x 69,x 70,x 71,x 72,x 73,x 74,x 75,x 76,x 77,x 78,x 79,x 80,x 81,x 82,x 83,x 84,x 85,x 86,x 87,x 88,x 89,x 90,x 91,x 92,x 93,x 94,x 95,x 96,x 97,x 98,x 99,x 100,x 101,x 102,x 103,x 104,x 105,x 106,x 107,x 108,x 109,x 110,x 111,x 112,x 113,x 114,x 115,x 116,x 117,x 118,x 119,x 120,x 121,x 122,x 123,x 124,x 125,x 126,x 127,x 128,x 129,x 130,x 131,x 132,x 133,x 134,x 135,x 136,x 137],[o,.cells (jC J.zero)]⟩):=by
 unfold q7_4
 have a1:=Qg3 0 [o] S
 rw[hd]at a1
 simp only[QcI]at a1
 rw[jd]at a1
 have hT:=toB_ne hne
 have l1:O.length+(0+1)≤9223372036854775807:=by omega
 have l2:S1.length+C.length≤9223372036854775807:=by rw[←h1];simp;omega
 refine w_1 a1 (j_ h1 (j_ h2 (j_ hT (j_ l1 l2)))) ?_
 exact⟨by first|exact trivial|exact rfl,Qam _ _ _ rfl⟩
abbrev zR(N:Nat):List AV:=List.replicate N (.d (.int .u8 0))
theorem flat_one(N:Nat)(v:AV):(List.replicate N [v]).flatten=List.replicate N v:=by
 induction N with
 |zero=>rfl
 |succ n ih=>rw[List.replicate_succ,List.flatten_cons,ih];rfl
theorem v7_5{o p:AObj}{N:Nat}(hN:N=16384):W (QaF code Qap) 0 q7_5 ⟨[boolD false,x 1,x 2,x 3,.ptr 0 0,intD 0,x 6,x 7,intD 12,intD 12,x 10,x 11,x 12,x 13,x 14,x 15,x 16,x 17,x 18,x 19,x 20,x 21,x 22,x 23,x 24,x 25,x 26,x 27,x 28,x 29,x 30,x 31,x 32,x 33,x 34,x 35,x 36,x 37,x 38,x 39,x 40,x 41,x 42,x 43,x 44,x 45,x 46,x 47,x 48,x 49,x 50,x 51,x 52,x 53,x 54,x 55,x 56,x 57,x 58,x 59,x 60,x 61,x 62,x 63,x 64,x 65,x 66,x 67,x 68,x 69,x 70,x 71,x 72,x 73,x 74,x 75,x 76,x 77,x 78,x 79,x 80,x 81,x 82,x 83,x 84,x 85,x 86,x 87,x 88,x 89,x 90,x 91,x 92,x 93,x 94,x 95,x 96,x 97,x 98,x 99,x 100,x 101,x 102,x 103,x 104,x 105,x 106,x 107,x 108,x 109,x 110,x 111,x 112,x 113,x 114,x 115,x 116,x 117,x 118,x 119,x 120,x 121,x 122,x 123,x 124,x 125,x 126,x 127,x 128,x 129,x 130,x 131,x 132,x 133,x 134,x 135,x 136,x 137],[o,p]⟩
  (fun e st=>e= .normal∧∃(R:List AV) (x:Nat→AV),R=zR N∧st=⟨[boolD false,x 1,x 2,x 3,.ptr 0 0,intD 0,x 6,x 7,intD 12,intD 12,.oslice 2 0 N N 1,x 11,x 12,x 13,x 14,x 15,x 16,x 17,x 18,x 19,x 20,x 21,x 22,x 23,x 24,x 25,x 26,x 27,x 28,x 29,x 30,x 31,x 32,x 33,x 34,x 35,x 36,x 37,x 38,x 39,x 40,x 41,x 42,x 43,x 44,x 45,x 46,x 47,x 48,x 49,x 50,x 51,x 52,x 53,x 54,x 55,x 56,x 57,x 58,x 59,x 60,x 61,x 62,x 63,x 64,x 65,x 66,x 67,x 68,x 69,x 70,x 71,x 72,x 73,x 74,x 75,x 76,x 77,x 78,x 79,x 80,x 81,x 82,x 83,x 84,x 85,x 86,x 87,x 88,x 89,x 90,x 91,x 92,x 93,x 94,x 95,x 96,x 97,x 98,x 99,x 100,x 101,x 102,x 103,x 104,x 105,x 106,x 107,x 108,x 109,x 110,x 111,x 112,x 113,x 114,x 115,x 116,x 117,x 118,x 119,x 120,x 121,x 122,x 123,x 124,x 125,x 126,x 127,x 128,x 129,x 130,x 131,x 132,x 133,x 134,x 135,x 136,x 137],[o,p,.cells R]⟩):=by
 have e:q7_5= .region [⟨some 49,.mkSl 1 1 [.d (.int (.u8) 0)] (.c (intD N)) (.c (intD N)),none,[]⟩,⟨some 10,.move (.t 49),none,[49]⟩] none [49]:=by rw[hN];rfl
 rw[e]
 have hf:=flat_one N (.d (.int .u8 0))
 generalize hR:List.replicate N (AV.d (.int .u8 0))=R at hf
 have c1:(0:Int)≤N:=by omega
 have c2:(N:Int)*1≤281474976710656:=by omega
 have c3:(N:Int)≤281474976710656:=by omega
 have c4:((N:Int)).toNat=N:=by omega
 refine w_r (j_ hf (j_ c1 (j_ c2 (j_ c3 c4)))) ?_
 exact⟨by first|exact trivial|exact rfl,R,swap2 (hR.symm) (Qam _ _ _ rfl)⟩
theorem Qkz{R:List AV}{i:Nat}{v:AV}(h:i<R.length):List.take i R++v::List.drop (i+1) R=R.set i v:=by
 rw[List.set_eq_take_append_cons_drop,if_pos h]
theorem v7_6{o p:AObj}{N:Nat}{R:List AV}(hN:N=16384)(hR:R=zR N):W (QaF code Qap) 0 q7_6 ⟨[boolD false,x 1,x 2,x 3,.ptr 0 0,intD 0,x 6,x 7,intD 12,intD 12,.oslice 2 0 N N 1,x 11,x 12,x 13,x 14,x 15,x 16,x 17,x 18,x 19,x 20,x 21,x 22,x 23,x 24,x 25,x 26,x 27,x 28,x 29,x 30,x 31,x 32,x 33,x 34,x 35,x 36,x 37,x 38,x 39,x 40,x 41,x 42,x 43,x 44,x 45,x 46,x 47,x 48,x 49,x 50,x 51,x 52,x 53,x 54,x 55,x 56,x 57,x 58,x 59,x 60,x 61,x 62,x 63,x 64,x 65,x 66,x 67,x 68,x 69,x 70,x 71,x 72,x 73,x 74,x 75,x 76,x 77,x 78,x 79,x 80,x 81,x 82,x 83,x 84,x 85,x 86,x 87,x 88,x 89,x 90,x 91,x 92,x 93,x 94,x 95,x 96,x 97,x 98,x 99,x 100,x 101,x 102,x 103,x 104,x 105,x 106,x 107,x 108,x 109,x 110,x 111,x 112,x 113,x 114,x 115,x 116,x 117,x 118,x 119,x 120,x 121,x 122,x 123,x 124,x 125,x 126,x 127,x 128,x 129,x 130,x 131,x 132,x 133,x 134,x 135,x 136,x 137],[o,p,.cells R]⟩
  (fun e st=>e= .normal∧∃(R:List AV) (x:Nat→AV),R=List.replicate N (.d (.int .u8 97))∧st=⟨[boolD false,x 1,x 2,x 3,.ptr 0 0,intD 0,x 6,x 7,intD 12,intD 12,.oslice 2 0 N N 1,x 11,x 12,x 13,x 14,x 15,x 16,x 17,x 18,x 19,x 20,x 21,x 22,x 23,x 24,x 25,x 26,x 27,x 28,x 29,x 30,x 31,x 32,x 33,x 34,x 35,x 36,x 37,x 38,x 39,x 40,x 41,x 42,x 43,x 44,x 45,x 46,x 47,x 48,x 49,x 50,x 51,x 52,x 53,x 54,x 55,x 56,x 57,x 58,x 59,x 60,x 61,x 62,x 63,x 64,x 65,x 66,x 67,x 68,x 69,x 70,x 71,x 72,x 73,x 74,x 75,x 76,x 77,x 78,x 79,x 80,x 81,x 82,x 83,x 84,x 85,x 86,x 87,x 88,x 89,x 90,x 91,x 92,x 93,x 94,x 95,x 96,x 97,x 98,x 99,x 100,x 101,x 102,x 103,x 104,x 105,x 106,x 107,x 108,x 109,x 110,x 111,x 112,x 113,x 114,x 115,x 116,x 117,x 118,x 119,x 120,x 121,x 122,x 123,x 124,x 125,x 126,x 127,x 128,x 129,x 130,x 131,x 132,x 133,x 134,x 135,x 136,x 137],[o,p,.cells R]⟩):=by
 unfold q7_6
 refine w_r trivial ?_
 refine Qki (fun k st=>∃(i:Nat) (R:List AV),i≤N∧k=N-i∧R=List.replicate i (.d (.int .u8 97))++zR (N-i)∧∃x:Nat→AV,st=⟨[boolD false,x 1,x 2,x 3,.ptr 0 0,intD 0,x 6,x 7,intD 12,intD 12,.oslice 2 0 N N 1,x 11,x 12,x 13,x 14,x 15,x 16,x 17,x 18,x 19,x 20,x 21,x 22,x 23,x 24,x 25,x 26,x 27,x 28,x 29,x 30,x 31,x 32,x 33,x 34,x 35,x 36,x 37,x 38,x 39,x 40,x 41,x 42,x 43,x 44,x 45,x 46,x 47,x 48,x 49,x 50,intD N,intD i,x 53,x 54,x 55,x 56,x 57,x 58,x 59,x 60,x 61,x 62,x 63,x 64,x 65,x 66,x 67,x 68,x 69,x 70,x 71,x 72,x 73,x 74,x 75,x 76,x 77,x 78,x 79,x 80,x 81,x 82,x 83,x 84,x 85,x 86,x 87,x 88,x 89,x 90,x 91,x 92,x 93,x 94,x 95,x 96,x 97,x 98,x 99,x 100,x 101,x 102,x 103,x 104,x 105,x 106,x 107,x 108,x 109,x 110,x 111,x 112,x 113,x 114,x 115,x 116,x 117,x 118,x 119,x 120,x 121,x 122,x 123,x 124,x 125,x 126,x 127,x 128,x 129,x 130,x 131,x 132,x 133,x 134,x 135,x 136,x 137],[o,p,.cells R]⟩) ?_ _ _ ⟨0,R,Nat.zero_le _,rfl,by rw[hR];rfl,Qam _ _ _ rfl⟩
 rintro k _ ⟨i,R,hi,rfl,hR,x,rfl⟩
 by_cases t0:i<N
 ·have f1:((i:Int)<(N:Int))=True:=eq_true (by omega)
  have f2:((0:Int)≤(i:Int))=True:=eq_true (by omega)
  have f3:((i:Int)).toNat=i:=by omega
  have f4:0+i*1=i:=by omega
  have w1:IntKind.i64.wrap ((i:Int)+1)=((i+1:Nat):Int):=Qef (by omega)
  have hlr:R.length=N:=by rw[hR];simp;omega
  have g1:i<R.length:=by omega
  have g2:i+1≤R.length:=g1
  obtain⟨R',hR0⟩:∃R',R.set i (.d (.int .u8 97))=R':=⟨_,rfl⟩
  have hR':=(Qkz (v:= .d (.int .u8 97)) g1).trans hR0
  have hset:R'=List.replicate (i+1) (.d (.int .u8 97))++zR (N-(i+1)):=by
   obtain⟨m,hm⟩:∃m,N-i=m+1:=⟨N-i-1,by omega⟩
   rw[←hR0,hR,List.set_append,if_neg (by rw[List.length_replicate];omega),List.length_replicate,Nat.sub_self,hm,show N-(i+1)=m by omega]
   show _++(List.replicate (m+1) _).set 0 _=_
   rw[List.replicate_succ,List.set_cons_zero,List.replicate_succ',List.append_assoc];rfl
  refine w_r (j_ f1 (j_ f2 (j_ f3 (j_ f4 (j_ w1 (j_ g2 hR')))))) ?_
  exact⟨N-(i+1),by omega,i+1,R',by omega,rfl,hset,Qam _ _ _ rfl⟩
 ·have f1:((i:Int)<(N:Int))=False:=eq_false (by omega)
  have hi':i=N:=by omega
  rw[hi',Nat.sub_self]at hR
  refine w_r f1 ?_
  exact⟨by first|exact trivial|exact rfl,R,swap2 (by rw[hR];exact List.append_nil _) (Qam _ _ _ rfl)⟩
theorem v7_7{o p:AObj}{N:Nat}{R R':List AV}(hN:1<N)(hl:R.length=N)(hR:R.set 0 (.d (.int .u8 34))=R'):W (QaF code Qap) 0 q7_7 ⟨[boolD false,x 1,x 2,x 3,.ptr 0 0,intD 0,x 6,x 7,intD 12,intD 12,.oslice 2 0 N N 1,x 11,x 12,x 13,x 14,x 15,x 16,x 17,x 18,x 19,x 20,x 21,x 22,x 23,x 24,x 25,x 26,x 27,x 28,x 29,x 30,x 31,x 32,x 33,x 34,x 35,x 36,x 37,x 38,x 39,x 40,x 41,x 42,x 43,x 44,x 45,x 46,x 47,x 48,x 49,x 50,x 51,x 52,x 53,x 54,x 55,x 56,x 57,x 58,x 59,x 60,x 61,x 62,x 63,x 64,x 65,x 66,x 67,x 68,x 69,x 70,x 71,x 72,x 73,x 74,x 75,x 76,x 77,x 78,x 79,x 80,x 81,x 82,x 83,x 84,x 85,x 86,x 87,x 88,x 89,x 90,x 91,x 92,x 93,x 94,x 95,x 96,x 97,x 98,x 99,x 100,x 101,x 102,x 103,x 104,x 105,x 106,x 107,x 108,x 109,x 110,x 111,x 112,x 113,x 114,x 115,x 116,x 117,x 118,x 119,x 120,x 121,x 122,x 123,x 124,x 125,x 126,x 127,x 128,x 129,x 130,x 131,x 132,x 133,x 134,x 135,x 136,x 137],[o,p,.cells R]⟩
  (fun e st=>e= .normal∧∃x:Nat→AV,st=⟨[boolD false,x 1,x 2,x 3,.ptr 0 0,intD 0,x 6,x 7,intD 12,intD 12,.oslice 2 0 N N 1,x 11,x 12,x 13,x 14,x 15,x 16,x 17,x 18,x 19,x 20,x 21,x 22,x 23,x 24,x 25,x 26,x 27,x 28,x 29,x 30,x 31,x 32,x 33,x 34,x 35,x 36,x 37,x 38,x 39,x 40,x 41,x 42,x 43,x 44,x 45,x 46,x 47,x 48,x 49,x 50,x 51,x 52,x 53,x 54,x 55,x 56,x 57,x 58,x 59,x 60,x 61,x 62,x 63,x 64,x 65,x 66,x 67,x 68,x 69,x 70,x 71,x 72,x 73,x 74,x 75,x 76,x 77,x 78,x 79,x 80,x 81,x 82,x 83,x 84,x 85,x 86,x 87,x 88,x 89,x 90,x 91,x 92,x 93,x 94,x 95,x 96,x 97,x 98,x 99,x 100,x 101,x 102,x 103,x 104,x 105,x 106,x 107,x 108,x 109,x 110,x 111,x 112,x 113,x 114,x 115,x 116,x 117,x 118,x 119,x 120,x 121,x 122,x 123,x 124,x 125,x 126,x 127,x 128,x 129,x 130,x 131,x 132,x 133,x 134,x 135,x 136,x 137],[o,p,.cells R']⟩):=by
 unfold q7_7
 have f1:((0:Int)<(N:Int))=True:=eq_true (by omega)
 have g1:1≤R.length:=by omega
 have hR1:=(Qkz (v:= .d (.int .u8 34)) g1).trans hR
 rw[List.take_zero,List.nil_append]at hR1
 refine w_r (j_ f1 (j_ g1 hR1)) ?_
 exact⟨by first|exact trivial|exact rfl,Qam _ _ _ rfl⟩
theorem v7_8{o p:AObj}{N K:Nat}{R R':List AV}(hN:N=16384)(hK:N=K+1)(hl:R.length=N)(hR:R.set K (.d (.int .u8 34))=R'):W (QaF code Qap) 0 q7_8 ⟨[boolD false,x 1,x 2,x 3,.ptr 0 0,intD 0,x 6,x 7,intD 12,intD 12,.oslice 2 0 N N 1,x 11,x 12,x 13,x 14,x 15,x 16,x 17,x 18,x 19,x 20,x 21,x 22,x 23,x 24,x 25,x 26,x 27,x 28,x 29,x 30,x 31,x 32,x 33,x 34,x 35,x 36,x 37,x 38,x 39,x 40,x 41,x 42,x 43,x 44,x 45,x 46,x 47,x 48,x 49,x 50,x 51,x 52,x 53,x 54,x 55,x 56,x 57,x 58,x 59,x 60,x 61,x 62,x 63,x 64,x 65,x 66,x 67,x 68,x 69,x 70,x 71,x 72,x 73,x 74,x 75,x 76,x 77,x 78,x 79,x 80,x 81,x 82,x 83,x 84,x 85,x 86,x 87,x 88,x 89,x 90,x 91,x 92,x 93,x 94,x 95,x 96,x 97,x 98,x 99,x 100,x 101,x 102,x 103,x 104,x 105,x 106,x 107,x 108,x 109,x 110,x 111,x 112,x 113,x 114,x 115,x 116,x 117,x 118,x 119,x 120,x 121,x 122,x 123,x 124,x 125,x 126,x 127,x 128,x 129,x 130,x 131,x 132,x 133,x 134,x 135,x 136,x 137],[o,p,.cells R]⟩
  (fun e st=>e= .normal∧∃x:Nat→AV,st=⟨[boolD false,x 1,x 2,x 3,.ptr 0 0,intD 0,x 6,x 7,intD 12,intD 12,.oslice 2 0 N N 1,x 11,x 12,x 13,x 14,x 15,x 16,x 17,x 18,x 19,x 20,x 21,x 22,x 23,x 24,x 25,x 26,x 27,x 28,x 29,x 30,x 31,x 32,x 33,x 34,x 35,x 36,x 37,x 38,x 39,x 40,x 41,x 42,x 43,x 44,x 45,x 46,x 47,x 48,x 49,x 50,x 51,x 52,x 53,x 54,x 55,x 56,x 57,x 58,x 59,x 60,x 61,x 62,x 63,x 64,x 65,x 66,x 67,x 68,x 69,x 70,x 71,x 72,x 73,x 74,x 75,x 76,x 77,x 78,x 79,x 80,x 81,x 82,x 83,x 84,x 85,x 86,x 87,x 88,x 89,x 90,x 91,x 92,x 93,x 94,x 95,x 96,x 97,x 98,x 99,x 100,x 101,x 102,x 103,x 104,x 105,x 106,x 107,x 108,x 109,x 110,x 111,x 112,x 113,x 114,x 115,x 116,x 117,x 118,x 119,x 120,x 121,x 122,x 123,x 124,x 125,x 126,x 127,x 128,x 129,x 130,x 131,x 132,x 133,x 134,x 135,x 136,x 137],[o,p,.cells R']⟩):=by
 unfold q7_8
 have w1:IntKind.i64.wrap ((N:Int)-1)=(K:Int):=by rw[w64 (by omega) (by omega)];omega
 have f1:((K:Int)<(N:Int))=True:=eq_true (by omega)
 have f2:((0:Int)≤(K:Int))=True:=eq_true (by omega)
 have f3:((K:Int)).toNat=K:=by omega
 have f4:0+K*1=K:=by omega
 have g1:K<R.length:=by omega
 have g2:K+1≤R.length:=g1
 have hR1:=(Qkz (v:= .d (.int .u8 34)) g1).trans hR
 refine w_r (j_ w1 (j_ f1 (j_ f2 (j_ f3 (j_ f4 (j_ g2 hR1)))))) ?_
 exact⟨by first|exact trivial|exact rfl,Qam _ _ _ rfl⟩
theorem Qhh:∀s:Tx,AV.bytes ((s.map byteD).map .d)=some s
 | []=>rfl
 |b::s=>by
  show AV.bytes (.d (.int .u8 (b.toNat:Int))::(s.map byteD).map .d)=_
  unfold AV.bytes
  rw[Qhh s]
  simp
theorem Qnd(lim:Nat)(H:Qaa)(r N:Nat)(B:Tx)(hg:H[r]? =some (.cells ((B.map byteD).map .d)))(hl:B.length=N):Ev (QaF code Qap) 10 lim [.oslice r 0 N N 1] H (QcI (QaP B)) H:=QcO (F:=Qen) rfl (by
 unfold Qen
 simp only[QfL,hg,if_true]
 have e:0+N≤((B.map byteD).map AV.d).length:=by simp;omega
 rw[if_pos e,List.drop_zero,List.take_of_length_le (by simp;omega),Qhh]
 rfl)
theorem v7_9{o p:AObj}{N:Nat}{R:List AV}{B t:Tx}(hl:B.length=N)(hR:R=(B.map byteD).map .d)(hd:QaP B= .ok (tJ t)):W (QaF code Qap) 0 q7_9 ⟨[boolD false,x 1,x 2,x 3,.ptr 0 0,intD 0,x 6,x 7,intD 12,intD 12,.oslice 2 0 N N 1,x 11,x 12,x 13,x 14,x 15,x 16,x 17,x 18,x 19,x 20,x 21,x 22,x 23,x 24,x 25,x 26,x 27,x 28,x 29,x 30,x 31,x 32,x 33,x 34,x 35,x 36,x 37,x 38,x 39,x 40,x 41,x 42,x 43,x 44,x 45,x 46,x 47,x 48,x 49,x 50,x 51,x 52,x 53,x 54,x 55,x 56,x 57,x 58,x 59,x 60,x 61,x 62,x 63,x 64,x 65,x 66,x 67,x 68,x 69,x 70,x 71,x 72,x 73,x 74,x 75,x 76,x 77,x 78,x 79,x 80,x 81,x 82,x 83,x 84,x 85,x 86,x 87,x 88,x 89,x 90,x 91,x 92,x 93,x 94,x 95,x 96,x 97,x 98,x 99,x 100,x 101,x 102,x 103,x 104,x 105,x 106,x 107,x 108,x 109,x 110,x 111,x 112,x 113,x 114,x 115,x 116,x 117,x 118,x 119,x 120,x 121,x 122,x 123,x 124,x 125,x 126,x 127,x 128,x 129,x 130,x 131,x 132,x 133,x 134,x 135,x 136,x 137],[o,p,.cells R]⟩
  (fun e st=>e= .normal∧∃x:Nat→AV,st=⟨[boolD false,x 1,x 2,x 3,.ptr 0 0,intD 0,x 6,x 7,intD 12,intD 12,.oslice 2 0 N N 1,x 11,.ptr 3 0,intD 0,x 14,x 15,x 16,x 17,x 18,x 19,x 20,x 21,x 22,x 23,x 24,x 25,x 26,x 27,x 28,x 29,x 30,x 31,x 32,x 33,x 34,x 35,x 36,x 37,x 38,x 39,x 40,x 41,x 42,x 43,x 44,x 45,x 46,x 47,x 48,x 49,x 50,x 51,x 52,x 53,x 54,x 55,x 56,x 57,x 58,x 59,x 60,x 61,x 62,x 63,x 64,x 65,x 66,x 67,x 68,x 69,x 70,x 71,x 72,x 73,x 74,x 75,x 76,x 77,x 78,x 79,x 80,x 81,x 82,x 83,x 84,x 85,x 86,x 87,x 88,x 89,x 90,x 91,x 92,x 93,x 94,x 95,x 96,x 97,x 98,x 99,x 100,x 101,x 102,x 103,x 104,x 105,x 106,x 107,x 108,x 109,x 110,x 111,x 112,x 113,x 114,x 115,x 116,x 117,x 118,x 119,x 120,x 121,x 122,x 123,x 124,x 125,x 126,x 127,x 128,x 129,x 130,x 131,x 132,x 133,x 134,x 135,x 136,x 137],[o,p,.cells R,.cells [.d (.int .i64 3),.d (.int .i64 0),.d (.str t),.d (.slice []),.d (.slice [])]]⟩):=by
 unfold q7_9
 have a1:=Qnd 0 [o,p,.cells R] 2 N B (by rw[hR];rfl) hl
 rw[hd]at a1
 simp only[QcI]at a1
 rw[show(tJ t).d=D.agg [.int .i64 3,.int .i64 0,.str t,.slice [],.slice []]from by rw[jd];rfl]at a1
 refine w_1 a1 trivial ?_
 exact⟨by first|exact trivial|exact rfl,Qam _ _ _ rfl⟩
theorem v7_10{o p q:AObj}{N:Nat}{B t:Tx}(hw:wt (tJ t)≤100000000000)(he:QcY (tJ t)= .ok B):W (QaF code Qap) 0 q7_10 ⟨[boolD false,x 1,x 2,x 3,.ptr 0 0,intD 0,x 6,x 7,intD 12,intD 12,.oslice 2 0 N N 1,x 11,.ptr 3 0,intD 0,x 14,x 15,x 16,x 17,x 18,x 19,x 20,x 21,x 22,x 23,x 24,x 25,x 26,x 27,x 28,x 29,x 30,x 31,x 32,x 33,x 34,x 35,x 36,x 37,x 38,x 39,x 40,x 41,x 42,x 43,x 44,x 45,x 46,x 47,x 48,x 49,x 50,x 51,x 52,x 53,x 54,x 55,x 56,x 57,x 58,x 59,x 60,x 61,x 62,x 63,x 64,x 65,x 66,x 67,x 68,x 69,x 70,x 71,x 72,x 73,x 74,x 75,x 76,x 77,x 78,x 79,x 80,x 81,x 82,x 83,x 84,x 85,x 86,x 87,x 88,x 89,x 90,x 91,x 92,x 93,x 94,x 95,x 96,x 97,x 98,x 99,x 100,x 101,x 102,x 103,x 104,x 105,x 106,x 107,x 108,x 109,x 110,x 111,x 112,x 113,x 114,x 115,x 116,x 117,x 118,x 119,x 120,x 121,x 122,x 123,x 124,x 125,x 126,x 127,x 128,x 129,x 130,x 131,x 132,x 133,x 134,x 135,x 136,x 137],[o,p,q,.cells [.d (.int .i64 3),.d (.int .i64 0),.d (.str t),.d (.slice []),.d (.slice [])]]⟩
  (fun e st=>e= .normal∧∃x:Nat→AV,st=⟨[boolD false,x 1,x 2,x 3,.ptr 0 0,intD 0,x 6,x 7,intD 12,intD 12,.oslice 2 0 N N 1,x 11,.ptr 3 0,intD 0,x 14,.d (.slice (B.map byteD)),intD 0,x 17,x 18,x 19,x 20,x 21,x 22,x 23,x 24,x 25,x 26,x 27,x 28,x 29,x 30,x 31,x 32,x 33,x 34,x 35,x 36,x 37,x 38,x 39,x 40,x 41,x 42,x 43,x 44,x 45,x 46,x 47,x 48,x 49,x 50,x 51,x 52,x 53,x 54,x 55,x 56,x 57,x 58,x 59,x 60,x 61,x 62,x 63,x 64,x 65,x 66,x 67,x 68,x 69,x 70,x 71,x 72,x 73,x 74,x 75,x 76,x 77,x 78,x 79,x 80,x 81,x 82,x 83,x 84,x 85,x 86,x 87,x 88,x 89,x 90,x 91,x 92,x 93,x 94,x 95,x 96,x 97,x 98,x 99,x 100,x 101,x 102,x 103,x 104,x 105,x 106,x 107,x 108,x 109,x 110,x 111,x 112,x 113,x 114,x 115,x 116,x 117,x 118,x 119,x 120,x 121,x 122,x 123,x 124,x 125,x 126,x 127,x 128,x 129,x 130,x 131,x 132,x 133,x 134,x 135,x 136,x 137],[o,p,q,.cells [.d (.int .i64 3),.d (.int .i64 0),.d (.str t),.d (.slice []),.d (.slice [])]]⟩):=by
 unfold q7_10
 have a1:=Qkk 0 [o,p,q,.cells [.d (.int .i64 3),.d (.int .i64 0),.d (.str t),.d (.slice []),.d (.slice [])]] (tJ t) hw
 rw[he]at a1
 simp only[encV]at a1
 rw[show(tJ t).d=D.agg [.int .i64 3,.int .i64 0,.str t,.slice [],.slice []]from by rw[jd];rfl]at a1
 refine w_1 a1 trivial ?_
 exact⟨by first|exact trivial|exact rfl,Qam _ _ _ rfl⟩
theorem v7_B{p q:AObj}{j:J}{N:Nat}{B B2 t t2:Tx}(hN:N=16384)(hl:B.length=N)(hB2:B++ [32]=B2)(ht2:t++ [97]=t2)(htl:t.length≤20000)(hw:wt (tJ t2)≤100000000000)(hd:QaP B2= .error (13,16384))(he:QcY (tJ t2)= .error 13)(hg:goodB 12 j=true)(hjw:wt j≤100000000000):
  W (QaF code Qap) 0 q7_B ⟨[boolD false,x 1,x 2,x 3,.ptr 0 0,intD 0,x 6,x 7,intD 12,intD 12,.fslice (B.map byteD),x 11,.ptr 3 0,intD 0,x 14,.d (.slice (B.map byteD)),intD 0,x 17,x 18,x 19,x 20,x 21,x 22,x 23,x 24,x 25,x 26,x 27,x 28,x 29,x 30,x 31,x 32,x 33,x 34,x 35,x 36,x 37,x 38,x 39,x 40,x 41,x 42,x 43,x 44,x 45,x 46,x 47,x 48,x 49,x 50,x 51,x 52,x 53,x 54,x 55,x 56,x 57,x 58,x 59,x 60,x 61,x 62,x 63,x 64,x 65,x 66,x 67,x 68,x 69,x 70,x 71,x 72,x 73,x 74,x 75,x 76,x 77,x 78,x 79,x 80,x 81,x 82,x 83,x 84,x 85,x 86,x 87,x 88,x 89,x 90,x 91,x 92,x 93,x 94,x 95,x 96,x 97,x 98,x 99,x 100,x 101,x 102,x 103,x 104,x 105,x 106,x 107,x 108,x 109,x 110,x 111,x 112,x 113,x 114,x 115,x 116,x 117,x 118,x 119,x 120,x 121,x 122,x 123,x 124,x 125,x 126,x 127,x 128,x 129,x 130,x 131,x 132,x 133,x 134,x 135,x 136,x 137],[.cells (jC j),p,.dead,.cells [.d (.int .i64 3),.d (.int .i64 0),.d (.str t),.d (.slice []),.d (.slice [])]]⟩
  (fun e st=>e= .ret∧∃x:Nat→AV,∃H,st=⟨[boolD true,x 1,x 2,x 3,x 4,x 5,x 6,x 7,x 8,x 9,x 10,x 11,x 12,x 13,x 14,x 15,x 16,x 17,x 18,x 19,x 20,x 21,x 22,x 23,x 24,x 25,x 26,x 27,x 28,x 29,x 30,x 31,x 32,x 33,x 34,x 35,x 36,x 37,x 38,x 39,x 40,x 41,x 42,x 43,x 44,x 45,x 46,x 47,x 48,x 49,x 50,x 51,x 52,x 53,x 54,x 55,x 56,x 57,x 58,x 59,x 60,x 61,x 62,x 63,x 64,x 65,x 66,x 67,x 68,x 69,x 70,x 71,x 72,x 73,x 74,x 75,x 76,x 77,x 78,x 79,x 80,x 81,x 82,x 83,x 84,x 85,x 86,x 87,x 88,x 89,x 90,x 91,x 92,x 93,x 94,x 95,x 96,x 97,x 98,x 99,x 100,x 101,x 102,x 103,x 104,x 105,x 106,x 107,x 108,x 109,x 110,x 111,x 112,x 113,x 114,x 115,x 116,x 117,x 118,x 119,x 120,x 121,x 122,x 123,x 124,x 125,x 126,x 127,x 128,x 129,x 130,x 131,x 132,x 133,x 134,x 135,x 136,x 137],H⟩):=by
 unfold q7_B
 obtain⟨H0,hH0⟩:∃H0:Qaa,[.cells (jC j),p,.dead,.cells [.d (.int .i64 3),.d (.int .i64 0),.d (.str t),.d (.slice []),.d (.slice [])]]=H0:=⟨_,rfl⟩
 have a1:=Qg3 0 H0 B2
 rw[hd]at a1
 simp only[QcI]at a1
 rw[jd]at a1
 have hz:=QaE B
 have m1:((B.map byteD).length+1)*2≤70368744177664:=by rw[List.length_map];omega
 have hm:B.map byteD++ [.int .u8 32]=B2.map byteD:=by rw[←hB2,List.map_append];rfl
 rw[hH0]
 have lH:H0.length=4:=by rw[←hH0];rfl
 have g3:H0[3]? =some (.cells [.d (.int .i64 3),.d (.int .i64 0),.d (.str t),.d (.slice []),.d (.slice [])]):=by rw[←hH0];rfl
 have g0:H0[0]? =some (.cells (jC j)):=by rw[←hH0];rfl
 obtain⟨M1,k1,n1,s1,l1,t1⟩:=QoD H0 4 lH
 have u3:∀o,(M1 o)[3]? =some (.cells [.d (.int .i64 3),.d (.int .i64 0),.d (.str t),.d (.slice []),.d (.slice [])]):=fun o=>t1 _ o _ g3
 have u0:∀o,(M1 o)[0]? =some (.cells (jC j)):=fun o=>t1 _ o _ g0
 refine W_sq ?_
 refine w_1 a1 (j_ hz (j_ m1 (j_ hm (j_ k1 (j_ n1 (j_ s1 (j_ l1 lH))))))) ?_
 refine W_sq ?_
 obtain⟨K,hK⟩:∃K:Qaa,(M1 (.cells (jC J.zero))).set 3 (.cells [.d (.int .i64 3),.d (.int .i64 0),.d (.str t2),.d (.slice []),.d (.slice [])])=K:=⟨_,rfl⟩
 have lt1:t.length+1≤9223372036854775807:=by omega
 refine w_r (j_ u3 (j_ ht2 (j_ lt1 hK))) ?_
 have q3:K[3]? =some (.cells [.d (.int .i64 3),.d (.int .i64 0),.d (.str t2),.d (.slice []),.d (.slice [])]):=by rw[←hK,List.getElem?_set_self (by rw[l1];omega)]
 have q0:K[0]? =some (.cells (jC j)):=by rw[←hK,List.getElem?_set_ne (by omega),u0]
 have b1:=Qkk 0 K (tJ t2) hw
 rw[he]at b1
 simp only[encV]at b1
 rw[show(tJ t2).d=D.agg [.int .i64 3,.int .i64 0,.str t2,.slice [],.slice []]from by rw[jd];rfl]at b1
 have b2:=GoodR_ev 0 K j hjw
 rw[hg,jd]at b2
 have b3:=awake_ev 0 K
 have hby:=Qds B
 have hbb:(B==B)=true:=by simp
 refine w_1 b1 q3 ?_
 refine W_sq ?_
 refine w_2 b2 b3 (j_ q0 (j_ hby hbb)) ?_
 refine w_r trivial ?_
 exact⟨by first|exact trivial|exact rfl,(Qam _ _ _ rfl).imp fun _ h=>⟨_,h⟩⟩
end
end Go.Proofs.YtmhmjlfajlpabaaDoor
namespace Go.Abs
open Go.RowKit
def QfR(v v':Value)(s:Nat):Prop:=v'.ownBlock=v.ownBlock∨∃k,v'.ownBlock=some k∧s≤k
section
variable {P:Program} (w:World)
theorem Qgs(t ty e:TypeId)(i:TypeInfo)(z:Value)(size bytes:Nat)(ht:P.underlying t=some (.slice e))(hi:P.info? e=some i)(hz:i.zero=some z)
  (hsize:i.size=size)(hby:i.bytes=bytes)(hzs:z.cells.size=size)(hsz:0<size)
  (v:Value)(n:Nat)(xs:List Value)(hown:w.ownsRowF 0 e size v n xs)
  (a:Addr)(m c:Nat)(news:List Value)(hl:news.length=m*size)(hnews:∀j u,news[j]? =some u→w.cell? (a.add j)=some u)(h1:∀u∈news,u.oneCell'=true)
  (h63:n+m≤maxLen)(hbytes:(n+m)*bytes≤140737488355328):
  ∃v' w',(Builtin.append_ #[t,t] ty #[v,.slice (some a) m c]).run P w= .ok v' w'∧w'.ownsRowF 0 e size v' (n+m) (xs++news)∧w.grownBy w' v.ownBlock∧QfR v v' w.heap.size:=by
 rcases hown.2 with⟨rfl,rfl⟩|⟨g,cap,cur,fz,rfl,hbg,hg,hfz,hnc,hcm,hcs,htake⟩
 ·have hown2:w.ownsRowF w.heap.size e size (.slice none 0 0) 0 xs:=⟨hown.1,.inl ⟨rfl,rfl⟩⟩
  obtain⟨v',w',r1,r2,r3,r4⟩:=run_append_ownF (P:=P) w w.heap.size t ty e i z size bytes ht hi hz hsize hby hzs hsz _ 0 xs hown2 a m c news hl hnews h1 h63 hbytes (Nat.le_refl _)
  refine⟨v',w',r1,⟨r2.1, ?_⟩,r3, ?_⟩
  ·rcases r2.2 with h|⟨g,cap,cur,fz,h1,h2,h3⟩
   ·exact .inl h
   ·exact .inr ⟨g,cap,cur,fz,h1,Nat.zero_le _,h3⟩
  ·rcases r2.2 with⟨h,_⟩|⟨g,cap,cur,fz,h1,h2,h3⟩
   ·exact .inl (by rw[h])
   ·exact .inr ⟨g,by rw[h1];rfl,h2⟩
 ·obtain⟨v',w',r1,r2,r3,r4⟩:=run_append_ownF (P:=P) w 0 t ty e i z size bytes ht hi hz hsize hby hzs hsz _ n xs hown a m c news hl hnews h1 h63 hbytes (Nat.zero_le _)
  refine⟨v',w',r1,r2,r3, ?_⟩
  subst hsize
  subst hby
  have hsmall:n+m≤9223372036854775807:=by simp only[maxLen]at h63;omega
  by_cases hroom:n+m≤cap
  ·have hfit:n*i.size+news.length≤cur.size:=by rw[hl,hcs,←Nat.add_mul];exact Nat.mul_le_mul_right _ hroom
   have hr:=run_append_roomF (P:=P) w t ty e i ht hi g n cap cur fz hg hfz a m c news hl hnews h1 hroom hfit
   rw[r1]at hr
   injection hr with hr _
   exact .inl (by rw[hr];rfl)
  ·have holds:∀j u,xs[j]? =some u→w.cell? ((⟨g,0,none⟩:Addr).add j)=some u:=hown.cells (g:=g) rfl
   have hr:=run_append_grow (P:=P) w t ty e i z ht hi hz ⟨g,0,none⟩ n cap xs hown.1 holds a m c news hl hnews (by omega) (by omega) (growslice_fits (by omega) hbytes)
   rw[r1]at hr
   injection hr with hr _
   exact .inr ⟨w.heap.size,by rw[hr];rfl,Nat.le_refl _⟩
theorem QaQ{ops:Array Oper}{rest:List Oper}{o:Oper}{a:Act}{Q:Exit→Act→World→Prop}(hgd:o.guard=none)(s x:Operand)(t:TypeId)
  (ho:o.op= .call { callee:= .builtin .append,args:= #[s,x],argTypes:= #[t,t] })
  (e:TypeId)(i:TypeInfo)(z:Value)(size bytes:Nat)(ht:P.underlying t=some (.slice e))(hi:P.info? e=some i)(hz:i.zero=some z)
  (hsize:i.size=size)(hby:i.bytes=bytes)(hzs:z.cells.size=size)(hsz:0<size)
  (v:Value)(n:Nat)(xs:List Value)(hs:a.eval s=v)(hown:w.ownsRowF 0 e size v n xs)
  (ad:Addr)(m c:Nat)(news:List Value)(hx:a.eval x= .slice (some ad) m c)(hl:news.length=m*size)(hnews:∀j u,news[j]? =some u→w.cell? (ad.add j)=some u)(h1:∀u∈news,u.oneCell'=true)
  (h63:n+m≤maxLen)(hbytes:(n+m)*bytes≤140737488355328)
  (h:∀v' w',w'.ownsRowF 0 e size v' (n+m) (xs++news)→w.grownBy w' v.ownBlock→QfR v v' w.heap.size→wpList P ops Q rest (a.put o.dst v') w'):wpList P ops Q (o::rest) a w:=by
 refine wpList_plain hgd fun K hK=> ?_
 obtain⟨v',w',hr,h2,h3,h4⟩:=Qgs (P:=P) w t o.type e i z size bytes ht hi hz hsize hby hzs hsz v n xs hown ad m c news hl hnews h1 h63 hbytes
 unfold Oper.wp execOp
 simp only[ho,resolve,invoke,builtin,Sem.run_bind,Sem.run_pure,Result.andThen_ok,List.map_toArray,List.map_cons,List.map_nil,hs,hx,hr]
 exact hK _ _ (h v' w' h2 h3 h4)
end
end Go.Abs
set_option maxHeartbeats 1000000
set_option linter.unusedVariables false
namespace Go.Proofs.YtmhmjlfajlpabaaDoor
open Go Go.Abs Go.Proofs Go.RowKit Go.Lib
theorem u76:Tryd.prog.underlying 76=some (.pointer 78):=by kernel_rfl
theorem u101:Tryd.prog.underlying 101=some .unsafePointer:=by kernel_rfl
theorem i78:∃j,Tryd.prog.info? 78=some j∧j.size=2:=by
 have h:(Tryd.prog.info? 78).map (·.size)=some 2:=by kernel_rfl
 obtain⟨j,h1,h2⟩:=Option.map_eq_some_iff.1 h
 exact⟨j,h1,h2⟩
theorem lies78:liesAt Tryd.prog Tryd.prog.depth 78 (2/Tryd.prog.cellsOf 78) 0 78 1=true:=by kernel_rfl
theorem cc_used(b:Nat)(w:World)(h0:w.cell? ⟨b,0,none⟩=some (.pointer (some ⟨b,0,none⟩))):
  Calls Tryd.prog 71 #[.pointer (some ⟨b,0,none⟩)] w fun e w'=>e= .returned (.tuple #[])∧w'=w:=by
 obtain⟨j,hj,hjs⟩:=i78
 go_enter Tryd.func71,Tryd.ntmps71
 go_wp2
 rw[Lib.run_neq_ptr_same w _ u76 hj]
 go_wp2
 go_end0
 exact⟨rfl,rfl⟩
theorem cc_fresh(b:Nat)(w:World)(h0:w.cell? ⟨b,0,none⟩=some (.pointer none))(hsh:w.shape? b=some (78,2))(hfz:w.frozen? ⟨b,0,none⟩=false):
  Calls Tryd.prog 71 #[.pointer (some ⟨b,0,none⟩)] w fun e w'=>e= .returned (.tuple #[])∧w'=w.setCell ⟨b,0,none⟩ (.pointer (some ⟨b,0,none⟩)):=by
 obtain⟨j,hj,hjs⟩:=i78
 go_enter Tryd.func71,Tryd.ntmps71
 go_wp2
 rw[Lib.run_to_unsafe w ⟨b,0,none⟩ u76 u101 hj (by rw[hjs];decide) hsh (Nat.zero_lt_succ 1)]
 simp only[Result.andThen]
 rw[Oper.upon_value]
 go_wp2
 rw[run_callFunc_extern Tryd.func79 (by kernel_rfl) (by kernel_rfl) (by kernel_rfl) (e:=Extern.AbiNoEscape.same) (by kernel_rfl)]
 rw[Lib.run_noEscape]
 simp only[Result.andThen]
 rw[Oper.upon_value]
 go_wp2
 rw[Lib.run_from_unsafe w ⟨b,0,none⟩ u101 u76 hj hsh lies78]
 simp only[Result.andThen]
 rw[Oper.upon_value]
 go_wp2
 go_end0
 exact⟨rfl,rfl⟩
theorem u22:Tryd.prog.underlying 22=some (.slice 5):=by kernel_rfl
theorem QmU:∃i:TypeInfo,Tryd.prog.info? 5=some i∧i.zero=some (.int .u8 0)∧i.size=1∧i.bytes=1:=info_parts (by kernel_rfl)
theorem ar1(v:Value)(n:Nat)(xs:List Value)(r:Int)(h0:0≤r)(h1:r≤127)(w:World)(hown:w.ownsRowF 0 5 1 v n xs)(hlen:n+4≤140737488355328):
  Calls Tryd.prog 72 #[v,.int .i32 r] w fun e w'=>∃v',e= .returned v'∧w'.ownsRowF 0 5 1 v' (n+1) (xs++ [.int .u8 r])∧(∃o,(w.alloc o).grownBy w' v.ownBlock)∧QfR v v' w.heap.size:=by
 obtain⟨i0,hi,hz0,hz1,hz2⟩:=QmU
 go_enter Tryd.func72,Tryd.ntmps72
 go_wp2_with (at_builtin;refine QaQ _ rfl _ _ 22 rfl 5 i0 (.int .u8 0) 1 1 u22 hi hz0 hz1 hz2 rfl (by decide) _ _ _ rfl (hown.alloc _) ⟨w.heap.size,0,none⟩ 1 1 [.int .u8 r] rfl rfl ?c1 ?c2 ?c3 ?c4 ?_)
 case c1=>
  intro j u hj
  match j,hj with
  |0,hj=>simp at hj;subst hj;simp[Addr.add]
  |(j+1),hj=>simp at hj
 case c2=>intro u hu;simp at hu;subst hu;rfl
 case c3=>unfold maxLen;omega
 case c4=>omega
 intro v' w2 hown' hgrow hrow
 go_wp2
 go_ret
 exact⟨_,rfl,hown',⟨_,hgrow⟩,hrow.imp_right fun⟨k,h1,h2⟩=>⟨k,h1,by omega⟩⟩
theorem ar2(v:Value)(n:Nat)(xs:List Value)(r:Int)(h0:128≤r)(h1:r≤2047)(w:World)(hown:w.ownsRowF 0 5 1 v n xs)(hlen:n+4≤140737488355328):
  Calls Tryd.prog 80 #[v,.int .i32 r] w fun e w'=>∃v',e= .returned v'∧w'.ownsRowF 0 5 1 v' (n+2) (xs++ [.int .u8 (192+r/64),.int .u8 (128+r % 64)])∧(∃o,(w.alloc o).grownBy w' v.ownBlock)∧QfR v v' w.heap.size:=by
 obtain⟨i0,hi,hz0,hz1,hz2⟩:=QmU
 go_enter Tryd.func80,Tryd.ntmps80
 go_wp2_with (at_builtin;refine QaQ _ rfl _ _ 22 rfl 5 i0 (.int .u8 0) 1 1 u22 hi hz0 hz1 hz2 rfl (by decide) _ _ _ rfl (hown.alloc _) ⟨w.heap.size,0,none⟩ 2 2 [.int .u8 (192+r/64),.int .u8 (128+r % 64)] rfl rfl ?c1 ?c2 ?c3 ?c4 ?_)
 case c1=>
  intro j u hj
  match j,hj with
  |0,hj=>simp at hj;subst hj;simp[Addr.add]
  |1,hj=>simp at hj;subst hj;simp[Addr.add]
  |(j+2),hj=>simp at hj
 case c2=>intro u hu;simp at hu;rcases hu with rfl|rfl<;>rfl
 case c3=>unfold maxLen;omega
 case c4=>omega
 intro v' w2 hown' hgrow hrow
 go_wp2
 go_ret
 exact⟨_,rfl,hown',⟨_,hgrow⟩,hrow.imp_right fun⟨k,h1,h2⟩=>⟨k,h1,by omega⟩⟩
theorem ar3(v:Value)(n:Nat)(xs:List Value)(r:Int)(h0:2048≤r)(h1:r<55296)(w:World)(hown:w.ownsRowF 0 5 1 v n xs)(hlen:n+4≤140737488355328):
  Calls Tryd.prog 80 #[v,.int .i32 r] w fun e w'=>∃v',e= .returned v'∧w'.ownsRowF 0 5 1 v' (n+3) (xs++ [.int .u8 (224+r/4096),.int .u8 (128+r/64 % 64),.int .u8 (128+r % 64)])∧(∃o,(w.alloc o).grownBy w' v.ownBlock)∧QfR v v' w.heap.size:=by
 obtain⟨i0,hi,hz0,hz1,hz2⟩:=QmU
 go_enter Tryd.func80,Tryd.ntmps80
 go_wp2_with (at_builtin;refine QaQ _ rfl _ _ 22 rfl 5 i0 (.int .u8 0) 1 1 u22 hi hz0 hz1 hz2 rfl (by decide) _ _ _ rfl (hown.alloc _) ⟨w.heap.size,0,none⟩ 3 3 [.int .u8 (224+r/4096),.int .u8 (128+r/64 % 64),.int .u8 (128+r % 64)] rfl rfl ?c1 ?c2 ?c3 ?c4 ?_)
 case c1=>
  intro j u hj
  match j,hj with
  |0,hj=>simp at hj;subst hj;simp[Addr.add]
  |1,hj=>simp at hj;subst hj;simp[Addr.add]
  |2,hj=>simp at hj;subst hj;simp[Addr.add]
  |(j+3),hj=>simp at hj
 case c2=>intro u hu;simp at hu;rcases hu with rfl|rfl|rfl<;>rfl
 case c3=>unfold maxLen;omega
 case c4=>omega
 intro v' w2 hown' hgrow hrow
 go_wp2
 go_ret
 exact⟨_,rfl,hown',⟨_,hgrow⟩,hrow.imp_right fun⟨k,h1,h2⟩=>⟨k,h1,by omega⟩⟩
theorem ar4(v:Value)(n:Nat)(xs:List Value)(r:Int)(h0:57343<r)(h1:r≤65535)(w:World)(hown:w.ownsRowF 0 5 1 v n xs)(hlen:n+4≤140737488355328):
  Calls Tryd.prog 80 #[v,.int .i32 r] w fun e w'=>∃v',e= .returned v'∧w'.ownsRowF 0 5 1 v' (n+3) (xs++ [.int .u8 (224+r/4096),.int .u8 (128+r/64 % 64),.int .u8 (128+r % 64)])∧(∃o,(w.alloc o).grownBy w' v.ownBlock)∧QfR v v' w.heap.size:=by
 obtain⟨i0,hi,hz0,hz1,hz2⟩:=QmU
 go_enter Tryd.func80,Tryd.ntmps80
 go_wp2_with (at_builtin;refine QaQ _ rfl _ _ 22 rfl 5 i0 (.int .u8 0) 1 1 u22 hi hz0 hz1 hz2 rfl (by decide) _ _ _ rfl (hown.alloc _) ⟨w.heap.size,0,none⟩ 3 3 [.int .u8 (224+r/4096),.int .u8 (128+r/64 % 64),.int .u8 (128+r % 64)] rfl rfl ?c1 ?c2 ?c3 ?c4 ?_)
 case c1=>
  intro j u hj
  match j,hj with
  |0,hj=>simp at hj;subst hj;simp[Addr.add]
  |1,hj=>simp at hj;subst hj;simp[Addr.add]
  |2,hj=>simp at hj;subst hj;simp[Addr.add]
  |(j+3),hj=>simp at hj
 case c2=>intro u hu;simp at hu;rcases hu with rfl|rfl|rfl<;>rfl
 case c3=>unfold maxLen;omega
 case c4=>omega
 intro v' w2 hown' hgrow hrow
 go_wp2
 go_ret
 exact⟨_,rfl,hown',⟨_,hgrow⟩,hrow.imp_right fun⟨k,h1,h2⟩=>⟨k,h1,by omega⟩⟩
theorem ar5(v:Value)(n:Nat)(xs:List Value)(r:Int)(h0:65536≤r)(h1:r≤1114111)(w:World)(hown:w.ownsRowF 0 5 1 v n xs)(hlen:n+4≤140737488355328):
  Calls Tryd.prog 80 #[v,.int .i32 r] w fun e w'=>∃v',e= .returned v'∧w'.ownsRowF 0 5 1 v' (n+4) (xs++ [.int .u8 (240+r/262144),.int .u8 (128+r/4096 % 64),.int .u8 (128+r/64 % 64),.int .u8 (128+r % 64)])∧(∃o,(w.alloc o).grownBy w' v.ownBlock)∧QfR v v' w.heap.size:=by
 obtain⟨i0,hi,hz0,hz1,hz2⟩:=QmU
 go_enter Tryd.func80,Tryd.ntmps80
 go_wp2_with (at_builtin;refine QaQ _ rfl _ _ 22 rfl 5 i0 (.int .u8 0) 1 1 u22 hi hz0 hz1 hz2 rfl (by decide) _ _ _ rfl (hown.alloc _) ⟨w.heap.size,0,none⟩ 4 4 [.int .u8 (240+r/262144),.int .u8 (128+r/4096 % 64),.int .u8 (128+r/64 % 64),.int .u8 (128+r % 64)] rfl rfl ?c1 ?c2 ?c3 ?c4 ?_)
 case c1=>
  intro j u hj
  match j,hj with
  |0,hj=>simp at hj;subst hj;simp[Addr.add]
  |1,hj=>simp at hj;subst hj;simp[Addr.add]
  |2,hj=>simp at hj;subst hj;simp[Addr.add]
  |3,hj=>simp at hj;subst hj;simp[Addr.add]
  |(j+4),hj=>simp at hj
 case c2=>intro u hu;simp at hu;rcases hu with rfl|rfl|rfl|rfl<;>rfl
 case c3=>unfold maxLen;omega
 case c4=>omega
 intro v' w2 hown' hgrow hrow
 go_wp2
 go_ret
 exact⟨_,rfl,hown',⟨_,hgrow⟩,hrow.imp_right fun⟨k,h1,h2⟩=>⟨k,h1,by omega⟩⟩
def Qgr(n:Nat):Prop:=n<55296∨57343<n∧n≤1114111
theorem QkA{n:Nat}(h:Qgr n):byteCells (QcU n)=if n<128 then [.int .u8 (n:Int)]else if n<2048 then [.int .u8 (192+(n:Int)/64),.int .u8 (128+(n:Int)% 64)]
  else if n<65536 then [.int .u8 (224+(n:Int)/4096),.int .u8 (128+(n:Int)/64 % 64),.int .u8 (128+(n:Int)% 64)]
  else [.int .u8 (240+(n:Int)/262144),.int .u8 (128+(n:Int)/4096 % 64),.int .u8 (128+(n:Int)/64 % 64),.int .u8 (128+(n:Int)% 64)]:=by
 have u:∀k:Nat,k<256→(UInt8.ofNat k).toNat=k:=fun k hk=>by simp;omega
 unfold Qgr at h
 unfold QcU byteCells
 split
 ·simp only[List.map_cons,List.map_nil,u n (by omega)]
 split
 ·simp only[List.map_cons,List.map_nil,u (192+n/64) (by omega),u (128+n % 64) (by omega)];rfl
 split
 ·simp only[List.map_cons,List.map_nil,u (224+n/4096) (by omega),u (128+n/64 % 64) (by omega),u (128+n % 64) (by omega)];rfl
 ·simp only[List.map_cons,List.map_nil,u (240+n/262144) (by omega),u (128+n/4096 % 64) (by omega),u (128+n/64 % 64) (by omega),u (128+n % 64) (by omega)];rfl
theorem ar_all(v:Value)(n:Nat)(xs:List Value)(r:Nat)(hr:Qgr r)(w:World)(hown:w.ownsRowF 0 5 1 v n xs)(hlen:n+4≤140737488355328):
  Calls Tryd.prog 72 #[v,.int .i32 r] w fun e w'=>∃v',e= .returned v'∧w'.ownsRowF 0 5 1 v' (n+(QcU r).length) (xs++byteCells (QcU r))∧(∃o,(w.alloc o).grownBy w' v.ownBlock)∧QfR v v' w.heap.size:=by
 have hb:=QkA hr
 have hl:(QcU r).length=(byteCells (QcU r)).length:=(byteCells_length _).symm
 rw[hl,hb]
 have hr':=hr
 unfold Qgr at hr'
 have H:=Lib.hid hr'
 clear hr' hb hl hr
 by_cases c1:r<128
 ·rw[if_pos c1]
  exact ar1 v n xs r (by omega) (by omega) w hown hlen
 rw[if_neg c1]
 have e80:∀args w,(callFunc 80 args).run Tryd.prog w= .ok (.enter 80 args) w:=enters_of Tryd.func80 (by kernel_rfl) rfl
 have h80:∀l:List Value,(Calls Tryd.prog 80 #[v,.int .i32 r] w fun e w'=>∃v',e= .returned v'∧w'.ownsRowF 0 5 1 v' (n+l.length) (xs++l)∧(∃o,(w.alloc o).grownBy w' v.ownBlock)∧QfR v v' w.heap.size)→
   Calls Tryd.prog 72 #[v,.int .i32 r] w fun e w'=>∃v',e= .returned v'∧w'.ownsRowF 0 5 1 v' (n+l.length) (xs++l)∧(∃o,(w.alloc o).grownBy w' v.ownBlock)∧QfR v v' w.heap.size:=by
  intro l h
  have c1':(128:Int)≤(r:Int):=by omega
  have c2':(r:Int)≤1114111:=by have:=H.out;omega
  go_enter Tryd.func72,Tryd.ntmps72
  go_wp2_with (go_at_fn 80;refine h.mono ?_)
  rintro e w1 ⟨v',rfl,h1,h2,h3⟩
  go_wp2
  go_ret
  exact⟨_,rfl,h1,h2,h3⟩
 refine h80 _ ?_
 by_cases c2:r<2048
 ·rw[if_pos c2]
  exact ar2 v n xs r (by omega) (by omega) w hown hlen
 rw[if_neg c2]
 by_cases c3:r<65536
 ·rw[if_pos c3]
  by_cases c4:r<55296
  ·exact ar3 v n xs r (by omega) (by omega) w hown hlen
  ·exact ar4 v n xs r (by have:=H.out;omega) (by omega) w hown hlen
 ·rw[if_neg c3]
  exact ar5 v n xs r (by omega) (by have:=H.out;omega) w hown hlen
structure Mv (b:Nat) (row:Option Nat) (w w':World):Prop where
 os:w'.os=w.os
 tape:w'.tape=w.tape
 output:w'.output=w.output
 size:w.heap.size≤w'.heap.size
 block:∀k,k<w.heap.size→k≠b→some k≠row→w'.heap[k]? =w.heap[k]?
theorem Mv.refl(b:Nat)(row:Option Nat)(w:World):Mv b row w w:=⟨rfl,rfl,rfl,Nat.le_refl _,fun _ _ _ _=>rfl⟩
theorem Mv.set{b i:Nat}{row:Option Nat}{w w':World}(h:Mv b row w w')(v:Value):Mv b row w (w'.setCell ⟨b,i,none⟩ v) where
 os:=h.os
 tape:=h.tape
 output:=h.output
 size:=by simpa using h.size
 block k hk hb hr:=by rw[heap_setCell_other _ _ _ _ hb];exact h.block k hk hb hr
theorem Mv.of_grown{b:Nat}{row:Option Nat}{w w1 w':World}(h:Mv b row w w1)(o:Obj)(hg:(w1.alloc o).grownBy w' row):Mv b row w w' where
 os:=hg.os.trans h.os
 tape:=hg.tape.trans h.tape
 output:=hg.output.trans h.output
 size:=by have h1:=hg.size;have h2:=h.size;simp at h1;omega
 block k hk hb hr:=by
  have h2:=h.size
  rw[hg.block k (by simp;omega) hr,alloc_old w1 o k (by omega)]
  exact h.block k hk hb hr
def BAt(b:Nat)(p v:Value)(l:Tx)(w:World):Prop:=
 w.heap[b]? =some (.cells #[p,v] 78 (0,0))∧w.ownsRowF 0 5 1 v l.length (byteCells l)∧v.ownBlock≠some b∧(l= []→v= .slice none 0 0)
def Bld(b:Nat)(l:Tx)(row:Option Nat)(w:World):Prop:=∃p v,(p= .pointer none∨p= .pointer (some ⟨b,0,none⟩))∧BAt b p v l w∧v.ownBlock=row
theorem BAt.lt{b:Nat}{p v:Value}{l:Tx}{w:World}(h:BAt b p v l w):b<w.heap.size:=by
 rcases Nat.lt_or_ge b w.heap.size with h'|h'
 ·exact h'
 ·have:=h.1;simp[Array.getElem?_eq_none h']at this
theorem BAt.row_lt{b:Nat}{p v:Value}{l:Tx}{w:World}(h:BAt b p v l w){k:Nat}(hk:v.ownBlock=some k):k<w.heap.size:=by
 rcases h.2.1.2 with⟨rfl,_⟩|⟨g,cap,cur,fz,rfl,_,hg,_⟩
 ·simp[Value.ownBlock]at hk
 ·obtain rfl:g=k:=by simpa[Value.ownBlock]using hk
  rcases Nat.lt_or_ge g w.heap.size with h'|h'
  ·exact h'
  ·simp[Array.getElem?_eq_none h']at hg
theorem QiB{v:Value}{n:Nat}{xs:List Value}{w w':World}(h:w.ownsRowF 0 5 1 v n xs)(hk:∀k,v.ownBlock=some k→w'.heap[k]? =w.heap[k]?):w'.ownsRowF 0 5 1 v n xs:=by
 refine⟨h.1, ?_⟩
 rcases h.2 with h|⟨g,cap,cur,fz,rfl,h1,hg,h2⟩
 ·exact .inl h
 ·exact .inr ⟨g,cap,cur,fz,rfl,h1,by rw[hk g (by simp[Value.ownBlock])];exact hg,h2⟩
theorem Bld.kept{b:Nat}{l:Tx}{row:Option Nat}{w w':World}(h:Bld b l row w)(hb:w'.heap[b]? =w.heap[b]?)(hr:∀k,row=some k→w'.heap[k]? =w.heap[k]?):Bld b l row w':=by
 obtain⟨p,v,hp,⟨h1,h2,h3,h4⟩,h5⟩:=h
 exact⟨p,v,hp,⟨by rw[hb];exact h1,QiB h2 (fun k hk=>hr k (by rw[←h5];exact hk)),h3,h4⟩,h5⟩
theorem cc_any{b:Nat}{p v:Value}{l:Tx}{w:World}(hp:p= .pointer none∨p= .pointer (some ⟨b,0,none⟩))(h:BAt b p v l w):
  Calls Tryd.prog 71 #[.pointer (some ⟨b,0,none⟩)] w fun e w'=>e= .returned (.tuple #[])∧BAt b (.pointer (some ⟨b,0,none⟩)) v l w'∧w'.heap.size=w.heap.size∧Mv b v.ownBlock w w':=by
 obtain⟨h1,h2,h3,h4⟩:=h
 have c0:w.cell? ⟨b,0,none⟩=some p:=by rw[cell_of_heap h1];rfl
 rcases hp with rfl|rfl
 ·refine(cc_fresh b w c0 (by simp[World.shape?,h1]) (by simp[World.frozen?,h1])).mono ?_
  rintro e w' ⟨rfl,rfl⟩
  refine⟨rfl,⟨?_,QiB h2 (fun k hk=> ?_),h3,h4⟩,by simp,(Mv.refl _ _ _).set _⟩
  ·simp[World.setCell,Array.getElem?_modify,h1]
  ·exact heap_setCell_other _ _ _ _ (fun e=>h3 (by rw[hk,e]))
 ·refine(cc_used b w c0).mono ?_
  rintro e w' ⟨rfl,rfl⟩
  exact⟨rfl,⟨h1,h2,h3,h4⟩,rfl,Mv.refl _ _ _⟩
def Qpe(b:Nat)(l:Tx)(row:Option Nat)(w w':World):Prop:=∃row',Bld b l row' w'∧Mv b row w w'∧(row'=row∨∃k,row'=some k∧w.heap.size≤k)
theorem QnX{b:Nat}{v v':Value}{l l':Tx}{w1 w2:World}{o:Obj}(h:BAt b (.pointer (some ⟨b,0,none⟩)) v l w1)(hg:(w1.alloc o).grownBy w2 v.ownBlock)(hrow:QfR v v' w1.heap.size)
  (hown:w2.ownsRowF 0 5 1 v' l'.length (byteCells l'))(hl:l'≠ []):Bld b l' v'.ownBlock (w2.setCell ⟨b,1,none⟩ v'):=by
 have hlt:=h.lt
 have hb2:w2.heap[b]? =some (.cells #[.pointer (some ⟨b,0,none⟩),v] 78 (0,0)):=by
  rw[hg.block b (by simp;omega) (fun e=>h.2.2.1 e.symm),alloc_old w1 _ b hlt]
  exact h.1
 have hne:v'.ownBlock≠some b:=by
  rcases hrow with e|⟨k,e,hk⟩
  ·rw[e];exact h.2.2.1
  ·rw[e];intro e2;injection e2 with e2;omega
 refine⟨_,v',.inr rfl,⟨?_,QiB hown (fun k hk=> ?_),hne,fun e=>absurd e hl⟩,rfl⟩
 ·simp[World.setCell,Array.getElem?_modify,hb2]
 ·exact heap_setCell_other _ _ _ _ (fun e=>hne (by rw[hk,e]))
theorem wb_any{b:Nat}{l:Tx}{row:Option Nat}{w:World}(c:UInt8)(h:Bld b l row w)(hlen:l.length+1≤140737488355328):
  Calls Tryd.prog 61 #[.pointer (some ⟨b,0,none⟩),.int .u8 c.toNat] w fun e w'=>e= .returned .nilIface∧Qpe b (l++ [c]) row w w':=by
 obtain⟨i0,hi,hz0,hz1,hz2⟩:=QmU
 obtain⟨p,v,hp,hat,rfl⟩:=h
 have e71:∀args w,(callFunc 71 args).run Tryd.prog w= .ok (.enter 71 args) w:=enters_of Tryd.func71 (by kernel_rfl) rfl
 go_enter Tryd.func61,Tryd.ntmps61
 go_wp2_with (go_at_fn 71;refine(cc_any hp hat).mono ?_)
 rintro e w1 ⟨rfl,h1,hs1,m1⟩
 have HS:=Lib.hid hs1
 clear hs1
 have hbk:=h1.1
 have c0:w1.cell? ⟨b,0,none⟩=some (.pointer (some ⟨b,0,none⟩)):=by rw[cell_of_heap hbk];rfl
 have c1:w1.cell? ⟨b,1,none⟩=some v:=by rw[cell_of_heap hbk];rfl
 go_wp2_with (at_builtin;refine QaQ _ rfl _ _ 22 rfl 5 i0 (.int .u8 0) 1 1 u22 hi hz0 hz1 hz2 rfl (by decide) _ _ _ rfl (h1.2.1.alloc _) ⟨w1.heap.size,0,none⟩ 1 1 [.int .u8 c.toNat] rfl rfl ?c1 ?c2 ?c3 ?c4 ?_)
 case c1=>
  intro j u hj
  match j,hj with
  |0,hj=>simp at hj;subst hj;simp[Addr.add]
  |(j+1),hj=>simp at hj
 case c2=>intro u hu;simp at hu;subst hu;rfl
 case c3=>unfold maxLen;omega
 case c4=>omega
 intro v' w2 hown' hgrow hrow
 have hrow':QfR v v' w1.heap.size:=hrow.imp_right fun⟨k,h1,h2⟩=>⟨k,h1,by omega⟩
 have hlt:=h1.lt
 have hb2:w2.heap[b]? =some (.cells #[.pointer (some ⟨b,0,none⟩),v] 78 (0,0)):=by
  rw[hgrow.block b (by simp;omega) (fun e=>h1.2.2.1 e.symm),alloc_old w1 _ b hlt]
  exact hbk
 have d0:w2.cell? ⟨b,0,none⟩=some (.pointer (some ⟨b,0,none⟩)):=by rw[cell_of_heap hb2];rfl
 have d1:w2.cell? ⟨b,1,none⟩=some v:=by rw[cell_of_heap hb2];rfl
 have f1:w2.frozen? ⟨b,1,none⟩=false:=frozen_of_heap hb2 1
 have hput:=QnX (l':=l++ [c]) h1 hgrow hrow' (by simpa[byteCells]using hown') (by simp)
 have hmv:=(m1.of_grown _ hgrow).set (i:=1) v'
 obtain⟨g,cap,rfl⟩:∃g cap,v'= .slice (some ⟨g,0,none⟩) (l.length+1) cap:=by
  rcases hown'.2 with⟨_,h0⟩|⟨g,cap,cur,fz,hv,_⟩
  ·omega
  ·exact⟨g,cap,hv⟩
 have HP:=Lib.hid hput
 have HM:=Lib.hid hmv
 have HR:=Lib.hid hrow'
 clear hput hmv hrow' hrow hgrow hb2 hbk
 go_wp2
 go_ret
 exact⟨rfl,_,HP.out,HM.out,HR.out.imp_right fun⟨k,h1,h2⟩=>⟨k,h1,by have:=HS.out;omega⟩⟩
theorem wr_any{b:Nat}{l:Tx}{row:Option Nat}{w:World}(r:Nat)(hr:Qgr r)(h:Bld b l row w)(hlen:l.length+4≤140737488355328):
  Calls Tryd.prog 59 #[.pointer (some ⟨b,0,none⟩),.int .i32 r] w fun e w'=>(∃v,e= .returned v)∧Qpe b (l++QcU r) row w w':=by
 obtain⟨p,v,hp,hat,rfl⟩:=h
 have e71:∀args w,(callFunc 71 args).run Tryd.prog w= .ok (.enter 71 args) w:=enters_of Tryd.func71 (by kernel_rfl) rfl
 have e72:∀args w,(callFunc 72 args).run Tryd.prog w= .ok (.enter 72 args) w:=enters_of Tryd.func72 (by kernel_rfl) rfl
 have hn:QcU r≠ []:=by unfold QcU;(repeat' split)<;>simp
 have hn0:0<(QcU r).length:=List.length_pos_iff.2 hn
 go_enter Tryd.func59,Tryd.ntmps59
 go_wp2_with (go_at_fn 71;refine(cc_any hp hat).mono ?_)
 rintro e w1 ⟨rfl,h1,hs1,m1⟩
 have HS:=Lib.hid hs1
 clear hs1
 obtain⟨ao,cap,rfl⟩:∃ao cap,v= .slice ao l.length cap:=by
  rcases h1.2.1.2 with⟨hv,h0⟩|⟨g,cap,cur,fz,hv,_⟩
  ·exact⟨none,0,by rw[hv,h0]⟩
  ·exact⟨_,_,hv⟩
 have hbk:=h1.1
 have c0:w1.cell? ⟨b,0,none⟩=some (.pointer (some ⟨b,0,none⟩)):=by rw[cell_of_heap hbk];rfl
 have c1:w1.cell? ⟨b,1,none⟩=some (.slice ao l.length cap):=by rw[cell_of_heap hbk];rfl
 have HB:=Lib.hid hbk
 clear hbk
 go_wp2_with (go_at_fn 72;refine(ar_all _ _ _ r hr _ h1.2.1 hlen).mono ?_)
 rintro e w2 ⟨v',rfl,hown',⟨o,hgrow⟩,hrow⟩
 have hlt:=h1.lt
 have hb2:w2.heap[b]? =some (.cells #[.pointer (some ⟨b,0,none⟩),.slice ao l.length cap] 78 (0,0)):=by
  rw[hgrow.block b (by simp;omega) (fun e=>h1.2.2.1 e.symm),alloc_old w1 _ b hlt]
  exact HB.out
 have d0:w2.cell? ⟨b,0,none⟩=some (.pointer (some ⟨b,0,none⟩)):=by rw[cell_of_heap hb2];rfl
 have d1:w2.cell? ⟨b,1,none⟩=some (.slice ao l.length cap):=by rw[cell_of_heap hb2];rfl
 have f1:w2.frozen? ⟨b,1,none⟩=false:=frozen_of_heap hb2 1
 have hput:=QnX (l':=l++QcU r) h1 hgrow hrow (by simpa[byteCells]using hown') (by simp[hn])
 have hmv:=(m1.of_grown _ hgrow).set (i:=1) v'
 obtain⟨g,cap',rfl⟩:∃g cap,v'= .slice (some ⟨g,0,none⟩) (l.length+(QcU r).length) cap:=by
  rcases hown'.2 with⟨_,h0⟩|⟨g,cap,cur,fz,hv,_⟩
  ·omega
  ·exact⟨g,cap,hv⟩
 have HP:=Lib.hid hput
 have HM:=Lib.hid hmv
 have HR:=Lib.hid hrow
 clear hput hmv hrow hgrow hb2
 go_wp2
 go_ret2
 exact⟨⟨_,rfl⟩,_,HP.out,HM.out,HR.out.imp_right fun⟨k,h1,h2⟩=>⟨k,h1,by have:=HS.out;omega⟩⟩
end Go.Proofs.YtmhmjlfajlpabaaDoor
set_option maxHeartbeats 2000000
set_option linter.unusedVariables false
namespace Go.Proofs.YtmhmjlfajlpabaaDoor
open Go Go.Abs Go.Proofs Go.RowKit Go.Lib
theorem QiF:Tryd.prog.follows .mixedOrders=true:=by kernel_rfl
theorem u93:Tryd.prog.underlying 93=some (.pointer 5):=by kernel_rfl
theorem cells5:Tryd.prog.cellsOf 5=1:=by kernel_rfl
theorem str_nil{b:Nat}{p:Value}{w:World}(hbk:w.heap[b]? =some (.cells #[p,.slice none 0 0] 78 (0,0))):
  Calls Tryd.prog 58 #[.pointer (some ⟨b,0,none⟩)] w fun e w'=>e= .returned (.string ⟨#[]⟩)∧w'=w.drew:=by
 have hUS:∀w',(Builtin.unsafeString_ #[93,3] 9 #[.pointer none,.int .i64 0]).run Tryd.prog w'= .ok (.string ⟨#[]⟩) w':=fun w'=>by rfl
 have hSD:∀w',(Builtin.unsafeSliceData_ #[22] 93 #[.slice none 0 0]).run Tryd.prog w'= .ok (.pointer none) w':=fun w'=>rfl
 have c1:w.drew.cell? ⟨b,1,none⟩=some (.slice none 0 0):=by
  have:w.drew.heap[b]? =some (.cells #[p,.slice none 0 0] 78 (0,0)):=hbk
  rw[cell_of_heap this];rfl
 clear hbk
 have QiF:=QiF
 go_enter Tryd.func58,Tryd.ntmps58
 go_wp2
 go_region_o
 all_goals(go_wp2;go_ret;exact⟨rfl,rfl⟩)
theorem str_row{b:Nat}{p:Value}{l:Tx}{w:World}{g cap:Nat}{cur:Array Value}{fz:Nat×Nat}(h0:l≠ [])(hbk:w.heap[b]? =some (.cells #[p,.slice (some ⟨g,0,none⟩) l.length cap] 78 (0,0)))
  (hown:w.ownsRowF 0 5 1 (.slice (some ⟨g,0,none⟩) l.length cap) l.length (byteCells l))(hg:w.heap[g]? =some (.cells cur 5 fz))(hnc:l.length≤cap)(hcm:cap≤maxLen)(hcs:cur.size=cap*1):
  Calls Tryd.prog 58 #[.pointer (some ⟨b,0,none⟩)] w fun e w'=>e= .returned (.string ⟨l.toArray⟩)∧w'=w.drew.freeze ⟨g,0,none⟩ l.length:=by
 have hl0:l.length≠0:=by simpa using h0
 have c1:w.drew.cell? ⟨b,1,none⟩=some (.slice (some ⟨g,0,none⟩) l.length cap):=by
  have:w.drew.heap[b]? =some (.cells #[p,.slice (some ⟨g,0,none⟩) l.length cap] 78 (0,0)):=hbk
  rw[cell_of_heap this];rfl
 have hSD:(Builtin.unsafeSliceData_ #[22] 93 #[.slice (some ⟨g,0,none⟩) l.length cap]).run Tryd.prog w.drew= .ok (.pointer (some ⟨g,0,none⟩)) w.drew:=
  run_unsafeSliceData_row _ _ _ _ _ _ (by omega)
 have hUS:(Builtin.unsafeString_ #[93,3] 9 #[.pointer (some ⟨g,0,none⟩),.int .i64 l.length]).run Tryd.prog w.drew= .ok (.string ⟨l.toArray⟩) (w.drew.freeze ⟨g,0,none⟩ l.length):=by
  refine run_unsafeString_row w.drew 93 3 9 5 u93 cells5 g cur.size (by have hg':w.drew.heap[g]? =some (.cells cur 5 fz):=hg;simp[World.shape?,hg']) l h0 (by omega) (by unfold maxLen at hcm;omega) ?_
  intro j x hx
  have:=hown.cells (g:=g) rfl j (.int .u8 x.toNat) (by simp[byteCells,hx])
  exact this
 clear hown hbk hg hl0 hcs
 have QiF:=QiF
 go_enter Tryd.func58,Tryd.ntmps58
 go_wp2
 go_region_o
 all_goals(go_wp2;go_ret;exact⟨rfl,rfl⟩)
theorem str_any{b:Nat}{l:Tx}{row:Option Nat}{w:World}(h:Bld b l row w):
  Calls Tryd.prog 58 #[.pointer (some ⟨b,0,none⟩)] w fun e w'=>e= .returned (.string ⟨l.toArray⟩)∧Mv b row w w':=by
 obtain⟨p,v,hp,⟨hbk,hown,hne,hnil⟩,rfl⟩:=h
 by_cases h0:l= []
 ·obtain rfl:=hnil h0
  subst h0
  refine(str_nil hbk).mono ?_
  rintro e w' ⟨rfl,rfl⟩
  exact⟨rfl,rfl,rfl,rfl,Nat.le_refl _,fun _ _ _ _=>rfl⟩
 ·have hown':=hown
  rcases hown.2 with⟨_,hz⟩|⟨g,cap,cur,fz,rfl,hbg,hg,hfz,hnc,hcm,hcs,htake⟩
  ·exact absurd (List.eq_nil_of_length_eq_zero hz) h0
  refine(str_row h0 hbk hown' hg hnc hcm hcs).mono ?_
  rintro e w' ⟨rfl,rfl⟩
  obtain⟨s1,s2,s3,s4⟩:=QgU w.drew ⟨g,0,none⟩ l.length
  refine⟨rfl,s1,s2,s3,Nat.le_of_eq s4.symm,fun k hk hb hr=> ?_⟩
  exact QgP w.drew ⟨g,0,none⟩ l.length k (fun e=>hr (by rw[e];rfl))
end Go.Proofs.YtmhmjlfajlpabaaDoor
