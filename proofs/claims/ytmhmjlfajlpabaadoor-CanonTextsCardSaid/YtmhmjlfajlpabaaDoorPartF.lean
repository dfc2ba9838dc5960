/- Part 6. -/
import Derived.Test.YtmhmjlfajlpabaaDoorPartE
import Derived.Lib.ItoaNum
set_option linter.all false
set_option maxRecDepth 100000
namespace Go.Proofs.YtmhmjlfajlpabaaDoor
open Go Go.Abs
variable {pr:FuncId→Option QbO} {pP:FuncId→Option Qfy} [POK pr] [PPOK pr pP]
theorem QiD:∀ks:List Tx,QdU (ks.map D.str)=some ks
 | []=>rfl
 |k::ks=>by
  show(QdU (ks.map D.str)).map (fun r=>k::r)=_
  rw[QiD ks];rfl
def QjG(n i:Nat):List AV:=(List.range n).map fun j=>if j<i then intD (j:Nat)else intD 0
theorem QmZ(n i:Nat):(QjG n i).length=n:=by simp[QjG]
theorem Qpk(n:Nat):(List.replicate n [intD 0]).flatten=QjG n 0:=by
 apply List.ext_getElem
 ·simp[QjG,List.length_flatten]
 ·intro i h1 h2
  simp[QjG]
theorem rowI_all(n:Nat):QjG n n=(List.range n).map fun(j:Nat)=>intD (j:Int):=by
 unfold QjG
 apply List.map_congr_left
 intro j hj
 rw[if_pos (List.mem_range.1 hj)]
theorem rowI_set{n i:Nat}(h:i<n):splice (QjG n i) i [intD (i:Nat)]=QjG n (i+1):=by
 unfold splice
 apply List.ext_getElem?
 intro j
 have hl:((QjG n i).take i).length=i:=by simp[QjG];omega
 by_cases h1:j<i
 ·rw[List.getElem?_append_left (by omega),List.getElem?_take,if_pos h1]
  simp only[QjG,List.getElem?_map]
  rw[List.getElem?_range (by omega)]
  simp[h1,show j<i+1 by omega]
 ·rw[List.getElem?_append_right (by omega),hl]
  by_cases h2:j=i
  ·subst h2
   simp[QjG,h]
  ·rw[List.getElem?_append_right (by simp;omega),List.getElem?_drop,show i+ [intD (i:Nat)].length+(j-i- [intD (i:Nat)].length)=j by simp;omega]
   simp only[QjG,List.getElem?_map]
   by_cases h3:j<n
   ·rw[List.getElem?_range h3]
    simp[h1,show ¬j<i+1 by omega]
   ·rw[List.getElem?_eq_none (by simp;omega)];rfl
theorem Qh7:∀(l:List Nat) (R:List AV),chunks 1 false l.length (l.map (fun(i:Nat)=>intD (i:Int))++R)=some (l.map fun(i:Nat)=>D.int .i64 (i:Int))
 | [],_=>rfl
 |a::l,R=>by
  have:=Qh7 l R
  simp only[List.map_cons,List.cons_append,List.length_cons,chunks,List.take_succ_cons,List.take_zero,AV.toDs,AV.toD,List.drop_succ_cons,List.drop_zero,this]
  rfl
theorem QkC(lim:Nat)(H:Qaa)(ks:List Tx)(hk:ks.length<1000000000000)(hd:ks.Nodup):Ev (QaH code pr) 44 lim [.d (sD ks)] H (.d (.slice ((Qar ks).map fun(i:Nat)=>D.int .i64 (i:Int)))) H:=by
 refine Fn.ev ?_
 refine Qa2 (pn rfl) rfl (show code 44=some c44 from rfl) rfl ?_;simp only[List.length_cons,List.length_nil,List.cons_append,List.nil_append,simprocAttr]
 have e0:=Qpk ks.length
 have c1:((ks.length:Int)*8≤281474976710656)=True:=eq_true (by omega)
 have c2:((ks.length:Int)≤281474976710656)=True:=eq_true (by omega)
 have a1:(H++ [AObj.cells [.d (sD ks)]]).length=H.length+1:=by simp
 have a2:∀o,H++ [AObj.cells [.d (sD ks)]]++ [o]=H++ [AObj.cells [.d (sD ks)],o]:=fun o=>by simp
 (iterate 4 refine w_s (j_ (@List.length_map.{0,0}) (j_ e0 (j_ c1 (j_ c2 (j_ a1 a2))))) ?_)
 have g1:∀o:AObj,(H++ [AObj.cells [.d (sD ks)],o])[H.length+1]? =some o:=fun o=>by rw[List.getElem?_append_right (by omega)];simp
 have g0:∀o:AObj,(H++ [AObj.cells [.d (sD ks)],o])[H.length]? =some (.cells [.d (sD ks)]):=fun o=>by rw[List.getElem?_append_right (by omega)];simp
 have s1:∀o o':AObj,(H++ [AObj.cells [.d (sD ks)],o]).set (H.length+1) o'=H++ [AObj.cells [.d (sD ks)],o']:=fun o o'=>by rw[List.set_append_right _ _ (by omega)];simp
 have hll:H.length≤H.length+1:=by omega
 (iterate 4 refine w_s trivial ?_)
 refine QgT (fun k st=>∃i:Nat,i≤ks.length∧k=ks.length-i∧∃x:Nat→AV,st=⟨[x 0,x 1,x 2,.ptr H.length 0,.oslice (H.length+1) 0 ks.length ks.length 1,intD ks.length,intD i,x 7,x 8,x 9],H++ [AObj.cells [.d (sD ks)],.cells (QjG ks.length i)]⟩) ?_ _ _ ⟨0,Nat.zero_le _,rfl,Qao _ _ _ rfl⟩
 rintro k _ ⟨i,hi,rfl,x,rfl⟩
 by_cases t0:i<ks.length
 ·have f1:((i:Int)<(ks.length:Int))=True:=eq_true (by omega)
  have w1:IntKind.i64.wrap ((i:Int)+1)=((i+1:Nat):Int):=Qdf (by omega)
  have hs:=rowI_set t0
  have hl:=QmZ ks.length i
  have hl2:i+1≤ks.length:=t0
  simp only[splice,List.length_cons,List.length_nil,Nat.zero_add,List.cons_append,List.nil_append]at hs
  generalize QjG ks.length i=R at*
  refine w_r (j_ f1 (j_ g1 (j_ s1 (j_ w1 (j_ hs (j_ hl (j_ hl2 (j_ hll @Nat.mul_one)))))))) ?_
  exact⟨ks.length-(i+1),by omega,i+1,t0,rfl,Qao _ _ _ rfl⟩
 ·obtain rfl:i=ks.length:=by omega
  have f1:((ks.length:Int)<(ks.length:Int))=False:=eq_false (by omega)
  have es:Ev (QaH code pr) 62 H.length [.oslice (H.length+1) 0 ks.length ks.length 1,.func (.func 63) [.ptr H.length 0]] (H++ [AObj.cells [.d (sD ks)],.cells (QjG ks.length ks.length)]) (.tuple []) (H++ [AObj.cells [.d (sD ks)],.cells ((Qar ks).map fun(i:Nat)=>intD (i:Int))]):=by
   refine Qde (F:=QlP) POK.sort ?_
   have hc:H.length≤H.length+1∧H.length+1≠H.length∧True∧ks.length<1000000000000∧ks.Nodup∧(QjG ks.length ks.length).length=ks.length∧AObj.beq (.cells (QjG ks.length ks.length)) (.cells ((List.range ks.length).map fun(i:Nat)=>intD (i:Int)))=true:=by
    refine⟨hll,by omega,trivial,hk,hd,QmZ _ _, ?_⟩
    rw[rowI_all];exact AV.beqs_self _
   simp only[QlP,g1,g0,QiD,if_pos hc,s1]
  have ch:=Qh7 (Qar ks) []
  rw[List.append_nil,QaV]at ch
  refine w_r f1 ?_
  refine w_1 es trivial ?_
  refine w_r trivial ?_
  refine Qad (vs:= [.oslice (H.length+1) 0 ks.length ks.length 1]) rfl ?_ ⟨rfl,rfl⟩
  have hc2:H.length≤H.length+1∧0<1:=⟨hll,by omega⟩
  simp only[Qcd,Go.Abs.freeze,if_pos hc2,g1,List.drop_zero]
  rw[if_pos (by simp[QaV]),show(1 !=1)=false from rfl,ch]
  rfl
end Go.Proofs.YtmhmjlfajlpabaaDoor
namespace Go.Proofs.YtmhmjlfajlpabaaDoor
open Go Go.Abs
theorem QjR{H:Qaa}{r:Nat}{o:AObj}(gr:H[r]? =some o)(B:AObj):∃KK:AObj→AObj→Qaa,(∀x y,KK x y=H.set r x++ [y])∧KK o B=H++ [B]∧(∀x y,(KK x y)[r]? =some x)∧(∀x y,(KK x y)[H.length]? =some y)∧
  (∀x x' y,(KK x y).set r x'=KK x' y)∧(∀x y y',(KK x y).set H.length y'=KK x y')∧r≤H.length:=by
 obtain⟨hr,e⟩:=List.getElem?_eq_some_iff.1 gr
 refine⟨fun x y=>H.set r x++ [y],fun _ _=>rfl, ?_,fun x y=> ?_,fun x y=> ?_,fun x x' y=> ?_,fun x y y'=> ?_, ?_⟩
 ·simp only;rw[←e,List.set_getElem_self hr]
 ·simp only;rw[List.getElem?_append_left (by simpa using hr)];simp[hr]
 ·simp only;rw[List.getElem?_append_right (by simp)];simp
 ·simp only;rw[List.set_append_left _ _ (by simpa using hr),List.set_set]
 ·simp only;rw[List.set_append_right _ _ (by simp)];simp
 ·exact Nat.le_of_lt hr
def QdP(s:Tx)(p:Nat):Nat:=if nx s p=45 then p+1 else p
theorem nx_lt{s:Tx}{p:Nat}(h:nx s p≠0):p<s.length:=by
 rcases Nat.lt_or_ge p s.length with h1|h1
 ·exact h1
 ·exact absurd (nx_end h1) h
theorem QpP(s:Tx)(p:Nat):QaZ s p=if QaE (nx s (QdP s p))then match Qa0 s (QdP s p) (s.length+1) 0 (QdP s p)with
  |.error e=> .error e
  |.ok (n,q)=>if 9007199254740991<n∨nx s q=46∨nx s q=101∨nx s q=69 then .error (15,p)
   else .ok (.mk 2 (if p<QdP s p then-(n:Int)else n) [] [] [],q)
 else .error (11,QdP s p):=rfl
abbrev zC:AObj:= .cells [intD 0,intD 0,.d (.str []),.fslice [],.fslice []]
theorem QpO(lim:Nat)(H:Qaa)(r:Nat)(s:Tx)(p:Nat)(gr:H[r]? =some (rdO s p))(hl:lim≤r)(hs:s.length≤16384)(hp:p≤s.length):
  Fv X0 XP 43 lim [.ptr r 0] H (fun v H'=>∃j q,QaZ s p= .ok (j,q)∧v= .d j.d∧H'=H.set r (rdO s q)) (fun z=>∃e,QaZ s p= .error e∧z=QdV e.1 e.2):=by
 refine QnJ (pn rfl) rfl (by first|exact rfl|exact pnP (pr:=Qbi) rfl) rfl (show code 43=some c43 from rfl) rfl ?_;simp only[List.length_cons,List.length_nil,List.cons_append,List.nil_append,simprocAttr]
 obtain⟨KK,kk0,kk1,kk2,kk3,kk4,kk5,hrl⟩:=QjR gr zC
 have hll:=Nat.le_trans hl hrl
 (iterate 2 refine v_s trivial ?_)
 rw[←kk1]
 (iterate 2 refine v_s kk2 ?_)
 refine V_mid (fun st=>∃x:Nat→AV,st=⟨[.ptr r 0,x 1,x 2,x 3,x 4,x 5,x 6,x 7,.ptr H.length 0,intD p,x 10,x 11,x 12,x 13,x 14,x 15],KK (rdO s (QdP s p)) zC⟩) ?_ ?_
 ·have wp:IntKind.i64.wrap ((p:Int)+1)=((p+1:Nat):Int):=QlE (by omega)
  by_cases h:nx s p=45
  ·have hf:QdP s p=p+1:=if_pos h
   have c1:(((nx s p).toNat:Int)==45)=true:=QiA h rfl
   rw[hf]
   refine v_r trivial ?_
   (apply Qa6;focus(refine Evl.call (X:=X0) (QbA lim (KK (rdO s p) zC) r s p (kk2 _ _) hp) (Evl.all fun k e1=> ?_);simp(maxSteps:=100000000) only[zz,zd,simprocAttr,c1,e1];(first|done|with_reducible exact rfl)))<;>(try simp only[zp,simprocAttr])
   refine v_r (j_ kk2 (j_ kk4 (j_ wp hl))) ?_
   exact Qao _ _ _ rfl
  ·have hf:QdP s p=p:=if_neg h
   have c1:(((nx s p).toNat:Int)==45)=false:=Qir h rfl
   rw[hf]
   refine v_r trivial ?_
   (apply Qa6;focus(refine Evl.call (X:=X0) (QbA lim (KK (rdO s p) zC) r s p (kk2 _ _) hp) (Evl.all fun k e1=> ?_);simp(maxSteps:=100000000) only[zz,zd,simprocAttr,c1,e1];(first|done|with_reducible exact rfl)))<;>(try simp only[zp,simprocAttr])
   refine v_r trivial ?_
   exact Qao _ _ _ rfl
 rintro _ ⟨x,rfl⟩
 have hfl:QdP s p≤s.length∧p≤QdP s p:=by
  unfold QdP
  split
  ·rename_i h;have:=nx_lt (s:=s) (p:=p) (by rw[h];decide);omega
  ·omega
 rw[QpP]
 generalize hf:QdP s p=f at hfl⊢
 cases hd:QaE (nx s f)with
 |false=>
  refine v_r kk2 ?_
  (apply Qa6;focus(refine Evl.call (X:=X0) (QbA lim (KK (rdO s f) zC) r s f (kk2 _ _) hfl.1) (Evl.call (X:=X0) (Qez lim (KK (rdO s f) zC) (nx s f)) (Evl.all fun k e2 e1=> ?_));simp(maxSteps:=100000000) only[zz,zd,simprocAttr,hd,e2,e1];(first|done|with_reducible exact rfl)))<;>(try simp only[zp,simprocAttr])
  refine v_r trivial ?_
  refine Qas ?_;apply QbE 3;(focus(intro _;simp only[zz,simprocAttr,kk2];(first|done|with_reducible exact rfl)));simp only[List.drop_succ_cons,List.drop_zero];refine QaJ rfl ?_;simp only[zz,simprocAttr]
  exact EvP.fv (Qbg _ _ r 11 f) ⟨_,rfl,rfl⟩
 |true=>
  refine v_r kk2 ?_
  (apply Qa6;focus(refine Evl.call (X:=X0) (QbA lim (KK (rdO s f) zC) r s f (kk2 _ _) hfl.1) (Evl.call (X:=X0) (Qez lim (KK (rdO s f) zC) (nx s f)) (Evl.all fun k e2 e1=> ?_));simp(maxSteps:=100000000) only[zz,zd,simprocAttr,hd,e2,e1];(first|done|with_reducible exact rfl)))<;>(try simp only[zp,simprocAttr])
  refine v_r trivial ?_
  refine V_lp (fun m st=>∃n q,f≤q∧q≤s.length∧m=s.length-q∧n≤90071992547409919∧Qa0 s f (s.length+1) 0 f=Qa0 s f (s.length+1-(q-f)) n q∧∃x:Nat→AV,st=⟨[.ptr r 0,x 1,x 2,x 3,x 4,x 5,x 6,x 7,.ptr H.length 0,intD p,intD f,intD n,x 12,x 13,x 14,x 15],KK (rdO s q) zC⟩) ?_ _ _ ⟨0,f,Nat.le_refl _,hfl.1,rfl,by omega,by rw[Nat.sub_self];rfl,Qao _ _ _ rfl⟩
  rintro m _ ⟨n,q,hq1,hq2,rfl,hn,hdg,x,rfl⟩
  cases hd2:QaE (nx s q)with
  |true=>
   have hql:q<s.length:=nx_lt fun h=>by rw[h]at hd2;cases hd2
   have hstep:Qa0 s f (s.length+1-(q-f)) n q=if q=f+1∧nx s f=48 then .error (11,q)else Qa0 s f (s.length+1-(q+1-f)) (if n≤9007199254740991 then 10*n+((nx s q).toNat-48)else n) (q+1):=by
    rw[show s.length+1-(q-f)=(s.length+1-(q+1-f))+1 by omega]
    conv=>lhs;unfold Qa0
    rw[hd2,if_pos rfl]
   refine v_r trivial ?_
   (apply Qa6;focus(refine Evl.call (X:=X0) (QbA lim (KK (rdO s q) zC) r s q (kk2 _ _) hq2) (Evl.call (X:=X0) (Qez lim (KK (rdO s q) zC) (nx s q)) (Evl.all fun k e2 e1=> ?_));simp(maxSteps:=100000000) only[zz,zd,simprocAttr,hd2,e2,e1];(first|done|with_reducible exact rfl)))<;>(try simp only[zp,simprocAttr])
   have hdd:=hd2
   rw[dig_eq,Bool.and_eq_true,decide_eq_true_eq,decide_eq_true_eq]at hdd
   have wf:IntKind.i64.wrap ((f:Int)+1)=((f+1:Nat):Int):=QlE (by omega)
   have wq:IntKind.i64.wrap ((q:Int)+1)=((q+1:Nat):Int):=QlE (by omega)
   have hfa:=Qdt (s:=s) (p:=f) (by omega)
   have gq:=kk2 (rdO s q) zC
   by_cases z1:q=f+1∧nx s f=48
   ·have c1:decide (q=f+1)=true:=decide_eq_true z1.1
    have c2:(((nx s f).toNat:Int)==48)=true:=QiA z1.2 rfl
    rw[if_pos z1]at hstep
    (repeat((first|refine Qkc ?_|refine QmE ?_|refine QeW ?_|refine Qc1 ?_|refine Qc0 ?_|(apply Qjr;focus(intro _;simp only[zz,simprocAttr,gq,wf,QjM,c1,c2,hfa,Qeg];(first|done|with_reducible exact rfl)))|(refine QmC ?_ ?_;focus(simp only[zp,simprocAttr];done))|(refine QmD ?_ ?_;focus(simp only[zp,simprocAttr];done)))<;>(try simp only[zp,simprocAttr])))
    refine Qas ?_;apply QbE 3;(focus(intro _;simp only[zz,simprocAttr,gq];(first|done|with_reducible exact rfl)));simp only[List.drop_succ_cons,List.drop_zero];refine QaJ rfl ?_;simp only[zz,simprocAttr]
    exact EvP.fv (Qbg _ _ r 11 q) ⟨_,by rw[hdg,hstep],rfl⟩
   rw[if_neg z1]at hstep
   have w1:IntKind.u8.wrap (((nx s q).toNat:Int)-48)=(((nx s q).toNat-48:Nat):Int):=by
    rw[←u8w ((nx s q).toNat-48) (by omega)];congr 1;omega
   have w2:IntKind.i64.wrap (((nx s q).toNat-48:Nat):Int)=(((nx s q).toNat-48:Nat):Int):=w64n _ (by omega)
   have next:∀ {st:St} {n':Nat},n'=(if n≤9007199254740991 then 10*n+((nx s q).toNat-48)else n)→(∃x:Nat→AV,st=⟨[.ptr r 0,x 1,x 2,x 3,x 4,x 5,x 6,x 7,.ptr H.length 0,intD p,intD f,intD n',x 12,x 13,x 14,x 15],KK (rdO s (q+1)) zC⟩)→
     ∃m,m<s.length-q∧∃n q,f≤q∧q≤s.length∧m=s.length-q∧n≤90071992547409919∧Qa0 s f (s.length+1) 0 f=Qa0 s f (s.length+1-(q-f)) n q∧∃x:Nat→AV,st=⟨[.ptr r 0,x 1,x 2,x 3,x 4,x 5,x 6,x 7,.ptr H.length 0,intD p,intD f,intD n,x 12,x 13,x 14,x 15],KK (rdO s q) zC⟩:=fun hn' hst=>
    ⟨s.length-(q+1),by omega,_,q+1,by omega,by omega,rfl,by rw[hn'];split<;>omega,by rw[hdg,hstep,hn'],hst⟩
   by_cases z2:q=f+1
   ·have z3:nx s f≠48:=fun h=>z1 ⟨z2,h⟩
    have c1:decide (q=f+1)=true:=decide_eq_true z2
    have c2:(((nx s f).toNat:Int)==48)=false:=Qir z3 rfl
    by_cases z4:n≤9007199254740991
    ·have c3:decide ((n:Int)≤9007199254740991)=true:=by simp;omega
     have w3:IntKind.i64.wrap (10*(n:Int))=((10*n:Nat):Int):=by rw[w64 (by omega) (by omega)];omega
     have w4:IntKind.i64.wrap (((10*n:Nat):Int)+(((nx s q).toNat-48:Nat):Int))=((10*n+((nx s q).toNat-48):Nat):Int):=by rw[w64 (by omega) (by omega)];omega
     (repeat((first|refine Qkc ?_|refine QmE ?_|refine QeW ?_|refine Qc1 ?_|refine Qc0 ?_|(apply Qjr;focus(intro _;simp only[zz,simprocAttr,gq,wf,QjM,c1,c2,c3,hfa,Qeg];(first|done|with_reducible exact rfl)))|(refine QmC ?_ ?_;focus(simp only[zp,simprocAttr];done))|(refine QmD ?_ ?_;focus(simp only[zp,simprocAttr];done)))<;>(try simp only[zp,simprocAttr])))
     (apply Qa6;focus(refine Evl.call (X:=X0) (QbA lim (KK (rdO s q) zC) r s q (kk2 _ _) hq2) (Evl.all fun k e1=> ?_);simp(maxSteps:=100000000) only[zz,zd,simprocAttr,w1,w2,w3,w4,e1];(first|done|with_reducible exact rfl)))<;>(try simp only[zp,simprocAttr])
     refine v_r (j_ gq (j_ wq (j_ kk4 hl))) ?_
     exact next (by rw[if_pos z4]) (Qao _ _ _ rfl)
    ·have c3:decide ((n:Int)≤9007199254740991)=false:=by simp;omega
     (repeat((first|refine Qkc ?_|refine QmE ?_|refine QeW ?_|refine Qc1 ?_|refine Qc0 ?_|(apply Qjr;focus(intro _;simp only[zz,simprocAttr,gq,wf,QjM,c1,c2,c3,hfa,Qeg,wq,kk4,hl];(first|done|with_reducible exact rfl)))|(refine QmC ?_ ?_;focus(simp only[zp,simprocAttr];done))|(refine QmD ?_ ?_;focus(simp only[zp,simprocAttr];done)))<;>(try simp only[zp,simprocAttr])))
     exact next (by rw[if_neg z4]) (Qao _ _ _ rfl)
   ·have c1:decide (q=f+1)=false:=decide_eq_false z2
    by_cases z4:n≤9007199254740991
    ·have c3:decide ((n:Int)≤9007199254740991)=true:=by simp;omega
     have w3:IntKind.i64.wrap (10*(n:Int))=((10*n:Nat):Int):=by rw[w64 (by omega) (by omega)];omega
     have w4:IntKind.i64.wrap (((10*n:Nat):Int)+(((nx s q).toNat-48:Nat):Int))=((10*n+((nx s q).toNat-48):Nat):Int):=by rw[w64 (by omega) (by omega)];omega
     (repeat((first|refine Qkc ?_|refine QmE ?_|refine QeW ?_|refine Qc1 ?_|refine Qc0 ?_|(apply Qjr;focus(intro _;simp only[zz,simprocAttr,gq,wf,QjM,c1,c3];(first|done|with_reducible exact rfl)))|(refine QmC ?_ ?_;focus(simp only[zp,simprocAttr];done))|(refine QmD ?_ ?_;focus(simp only[zp,simprocAttr];done)))<;>(try simp only[zp,simprocAttr])))
     (apply Qa6;focus(refine Evl.call (X:=X0) (QbA lim (KK (rdO s q) zC) r s q (kk2 _ _) hq2) (Evl.all fun k e1=> ?_);simp(maxSteps:=100000000) only[zz,zd,simprocAttr,w1,w2,w3,w4,e1];(first|done|with_reducible exact rfl)))<;>(try simp only[zp,simprocAttr])
     refine v_r (j_ gq (j_ wq (j_ kk4 hl))) ?_
     exact next (by rw[if_pos z4]) (Qao _ _ _ rfl)
    ·have c3:decide ((n:Int)≤9007199254740991)=false:=by simp;omega
     (repeat((first|refine Qkc ?_|refine QmE ?_|refine QeW ?_|refine Qc1 ?_|refine Qc0 ?_|(apply Qjr;focus(intro _;simp only[zz,simprocAttr,gq,wf,QjM,c1,c3,wq,kk4,hl];(first|done|with_reducible exact rfl)))|(refine QmC ?_ ?_;focus(simp only[zp,simprocAttr];done))|(refine QmD ?_ ?_;focus(simp only[zp,simprocAttr];done)))<;>(try simp only[zp,simprocAttr])))
     exact next (by rw[if_neg z4]) (Qao _ _ _ rfl)
  |false=>
   have hend:Qa0 s f (s.length+1-(q-f)) n q= .ok (n,q):=by
    rw[show s.length+1-(q-f)=(s.length-(q-f))+1 by omega]
    unfold Qa0
    rw[hd2];rfl
   rw[hdg,hend]
   simp only
   have gq:=kk2 (rdO s q) zC
   refine v_r trivial ?_
   (apply Qa6;focus(refine Evl.call (X:=X0) (QbA lim (KK (rdO s q) zC) r s q (kk2 _ _) hq2) (Evl.call (X:=X0) (Qez lim (KK (rdO s q) zC) (nx s q)) (Evl.all fun k e2 e1=> ?_));simp(maxSteps:=100000000) only[zz,zd,simprocAttr,hd2,e2,e1];(first|done|with_reducible exact rfl)))<;>(try simp only[zp,simprocAttr])
   refine v_r trivial ?_
   (apply Qa6;focus(refine Evl.call (X:=X0) (QbA lim (KK (rdO s q) zC) r s q (kk2 _ _) hq2) (Evl.all fun k e1=> ?_);simp(maxSteps:=100000000) only[zz,zd,simprocAttr,e1];(first|done|with_reducible exact rfl)))<;>(try simp only[zp,simprocAttr])
   by_cases b1:9007199254740991<n
   ·have c1:decide ((n:Int)>9007199254740991)=true:=by simp;omega
    refine v_r c1 ?_
    refine Qas ?_;refine QaJ rfl ?_;simp only[zz,simprocAttr]
    exact EvP.fv (Qbg _ _ r 15 p) ⟨_,by rw[if_pos (.inl b1)],rfl⟩
   have c1:decide ((n:Int)>9007199254740991)=false:=by simp;omega
   by_cases b2:nx s q=46
   ·have c2:(((nx s q).toNat:Int)==46)=true:=QiA b2 rfl
    refine v_r (j_ c1 c2) ?_
    refine Qas ?_;refine QaJ rfl ?_;simp only[zz,simprocAttr]
    exact EvP.fv (Qbg _ _ r 15 p) ⟨_,by rw[if_pos (.inr (.inl b2))],rfl⟩
   have c2:(((nx s q).toNat:Int)==46)=false:=Qir b2 rfl
   by_cases b3:nx s q=101
   ·have c3:(((nx s q).toNat:Int)==101)=true:=QiA b3 rfl
    refine v_r (j_ c1 (j_ c2 c3)) ?_
    refine Qas ?_;refine QaJ rfl ?_;simp only[zz,simprocAttr]
    exact EvP.fv (Qbg _ _ r 15 p) ⟨_,by rw[if_pos (.inr (.inr (.inl b3)))],rfl⟩
   have c3:(((nx s q).toNat:Int)==101)=false:=Qir b3 rfl
   by_cases b4:nx s q=69
   ·have c4:(((nx s q).toNat:Int)==69)=true:=QiA b4 rfl
    refine v_r (j_ c1 (j_ c2 (j_ c3 c4))) ?_
    refine Qas ?_;refine QaJ rfl ?_;simp only[zz,simprocAttr]
    exact EvP.fv (Qbg _ _ r 15 p) ⟨_,by rw[if_pos (.inr (.inr (.inr b4)))],rfl⟩
   have c4:(((nx s q).toNat:Int)==69)=false:=Qir b4 rfl
   rw[if_neg (by rintro(h|h|h|h);exact b1 h;exact b2 h;exact b3 h;exact b4 h)]
   by_cases b5:p<f
   ·have c5:decide ((f:Int)>(p:Int))=true:=by simp;omega
    have wn:IntKind.i64.wrap (0-(n:Int))= -(n:Int):=by rw[w64 (by omega) (by omega)];omega
    refine v_r (j_ c1 (j_ c2 (j_ c3 (j_ c4 (j_ c5 (j_ wn (j_ kk3 (j_ kk5 hll)))))))) ?_
    refine Qca (vs:= [.d (flatD 2 (-(n:Int)))]) ?_ (kk0 _ _) (List.getElem?_eq_some_iff.1 gr).1 rfl rfl ⟨_,q,rfl,by rw[if_pos b5,jd];rfl,rfl⟩
    simp only[Qcc,zz,simprocAttr,kk3]
   ·have c5:decide ((f:Int)>(p:Int))=false:=by simp;omega
    refine v_r (j_ c1 (j_ c2 (j_ c3 (j_ c4 (j_ c5 (j_ kk3 (j_ kk5 hll))))))) ?_
    refine Qca (vs:= [.d (flatD 2 (n:Int))]) ?_ (kk0 _ _) (List.getElem?_eq_some_iff.1 gr).1 rfl rfl ⟨_,q,rfl,by rw[if_neg b5,jd];rfl,rfl⟩
    simp only[Qcc,zz,simprocAttr,kk3]
theorem more_eq(s:Tx)(first:Bool)(e:UInt8)(p:Nat):QbI s first e p=if s[Qac s p]? =some e then .ok (false,Qac s p+1)
 else if first then .ok (true,Qac s p)
 else match QbP s 44 (Qac s p)with
  |.error e=> .error e
  |.ok q=> .ok (true,Qac s q):=rfl
theorem QpQ(lim:Nat)(H:Qaa)(r:Nat)(s:Tx)(p:Nat)(first:Bool)(e:UInt8)(he:e≠0)(gr:H[r]? =some (rdO s p))(hl:lim≤r)(hs:s.length≤16384)(hp:p≤s.length):
  Fv X0 XP 39 lim [.ptr r 0,boolD first,.d (.int .u8 e.toNat)] H (fun v H'=>∃b q,QbI s first e p= .ok (b,q)∧v=boolD b∧H'=H.set r (rdO s q)) (fun z=>∃x,QbI s first e p= .error x∧z=QdV x.1 x.2):=by
 rw[more_eq]
 have hb:=QqL s p hp
 have ev:=QdB (pr:=Qbi) lim H r s p gr hl hp hs
 have gb:=Qhg gr (Qac s p)
 generalize Qac s p=q at hb ev gb⊢
 refine QoO (pn rfl) rfl (by first|exact rfl|exact pnP (pr:=Qbi) rfl) rfl (show code 39=some c39 from rfl) rfl ?_;simp only[List.length_cons,List.length_nil,List.cons_append,List.nil_append,simprocAttr]
 refine v_r trivial ?_
 (apply Qa6;focus(refine Evl.call (X:=X0) (ev) (Evl.all fun k e1=> ?_);simp(maxSteps:=100000000) only[zz,zd,simprocAttr,e1];(first|done|with_reducible exact rfl)))<;>(try simp only[zp,simprocAttr])
 by_cases h:s[q]? =some e
 ·have hq:=(List.getElem?_eq_some_iff.1 h).1
  have hn:nx s q=e:=by have:=Qdt hq;rw[h]at this;exact(Option.some.inj this).symm
  have c1:(((nx s q).toNat:Int)==(e.toNat:Int))=true:=by rw[hn];simp
  have c2:decide ((q:Int)<(s.length:Int))=true:=by simp;omega
  have wq:IntKind.i64.wrap ((q:Int)+1)=((q+1:Nat):Int):=QlE (by omega)
  rw[if_pos h]
  refine v_r trivial ?_
  (apply Qa6;focus(refine Evl.call (X:=X0) (QbA lim (H.set r (rdO s q)) r s q gb hb.2) (Evl.all fun k e1=> ?_);simp(maxSteps:=100000000) only[zz,zd,simprocAttr,c1,c2,gb,e1];(first|done|with_reducible exact rfl)))<;>(try simp only[zp,simprocAttr])
  (repeat((first|refine Qkc ?_|refine QmE ?_|refine QeW ?_|refine Qc1 ?_|refine Qc0 ?_|(apply Qjr;focus(intro _;simp only[zz,simprocAttr,gb,wq,hl,Qd2];(first|done|with_reducible exact rfl)))|(refine QmC ?_ ?_;focus(simp only[zp,simprocAttr];done))|(refine QmD ?_ ?_;focus(simp only[zp,simprocAttr];done)))<;>(try simp only[zp,simprocAttr])))
  exact Qbe rfl ⟨false,q+1,rfl,rfl,rfl⟩
 ·have hn:nx s q≠e:=fun hn=>by
   have hq:=nx_lt (s:=s) (p:=q) (by rw[hn];exact he)
   exact h (by rw[Qdt hq,hn])
  have c1:(((nx s q).toNat:Int)==(e.toNat:Int))=false:=Qir hn rfl
  rw[if_neg h]
  cases first with
  |true=>
   rw[if_pos rfl]
   refine v_r trivial ?_
   (apply Qa6;focus(refine Evl.call (X:=X0) (QbA lim (H.set r (rdO s q)) r s q gb hb.2) (Evl.all fun k e1=> ?_);simp(maxSteps:=100000000) only[zz,zd,simprocAttr,c1,e1];(first|done|with_reducible exact rfl)))<;>(try simp only[zp,simprocAttr])
   refine v_r trivial ?_
   exact Qbe rfl ⟨true,q,rfl,rfl,rfl⟩
  |false=>
   rw[if_neg (by simp)]
   refine v_r trivial ?_
   (apply Qa6;focus(refine Evl.call (X:=X0) (QbA lim (H.set r (rdO s q)) r s q gb hb.2) (Evl.all fun k e1=> ?_);simp(maxSteps:=100000000) only[zz,zd,simprocAttr,c1,e1];(first|done|with_reducible exact rfl)))<;>(try simp only[zp,simprocAttr])
   refine v_r trivial ?_
   rcases QcE s 44 q with⟨h1,h2⟩|⟨h1,h2⟩
   ·rw[h2]
    have hq1:=(List.getElem?_eq_some_iff.1 h1).1
    have ew:Ev X0 57 lim [.ptr r 0,.d (.int .u8 44)] (H.set r (rdO s q)) (.tuple []) _:=Qjw lim (H.set r (rdO s q)) r s q 44 gb hl hs h1
    have eb:=QdB (pr:=Qbi) lim (H.set r (rdO s (q+1))) r s (q+1) (Qhg gr _) hl (by omega) hs
    rw[Qd2]at ew eb
    (apply Qa6;focus(refine Evl.call (X:=X0) (ew) (Evl.all fun k e1=> ?_);simp(maxSteps:=100000000) only[zz,zd,simprocAttr,e1];(first|done|with_reducible exact rfl)))<;>(try simp only[zp,simprocAttr])
    refine v_r trivial ?_
    (apply Qa6;focus(refine Evl.call (X:=X0) (eb) (Evl.all fun k e1=> ?_);simp(maxSteps:=100000000) only[zz,zd,simprocAttr,e1];(first|done|with_reducible exact rfl)))<;>(try simp only[zp,simprocAttr])
    refine v_r trivial ?_
    exact Qbe rfl ⟨true,_,rfl,rfl,rfl⟩
   ·rw[h2]
    refine Qas ?_;refine QaJ rfl ?_;simp only[zz,simprocAttr]
    exact EvP.fv (Qjx lim _ r s q 44 gb hb.2 h1) ⟨_,rfl,rfl⟩
theorem Qo2{lim:Nat}{H:Qaa}{r:Nat}{s:Tx}{p:Nat}(gr:H[r]? =some (rdO s p))(hl:lim≤r)(hs:s.length≤16384)(hp:p≤s.length){t:Tx}{q:Nat}(h:Qbq s p= .ok (t,q)):
  Ev X0 41 lim [.ptr r 0] H (.d (.str t)) (H.set r (rdO s q)):=by
 refine Qde (F:=Qkl) rfl ?_
 have h0:lim≤r∧(0:Int)≤(p:Int)∧(p:Int)≤(s.length:Int)∧s.length≤16384:=⟨hl,by omega,by omega,hs⟩
 simp only[Qkl,gr,if_pos h0,Int.toNat_natCast,h]
theorem Qo3{lim:Nat}{H:Qaa}{r:Nat}{s:Tx}{p:Nat}(gr:H[r]? =some (rdO s p))(hl:lim≤r)(hs:s.length≤16384)(hp:p≤s.length){e:Nat×Nat}(h:Qbq s p= .error e):
  EvP XP 41 lim [.ptr r 0] H (QdV e.1 e.2):=by
 refine EvP_prim (F:=Qg7) rfl rfl ?_
 have h0:lim≤r∧(0:Int)≤(p:Int)∧(p:Int)≤(s.length:Int)∧s.length≤16384:=⟨hl,by omega,by omega,hs⟩
 simp only[Qg7,gr,if_pos h0,Int.toNat_natCast,h]
def Qkb(f:Nat):Prop:=∀(lim:Nat) (H:Qaa) (r:Nat) (s:Tx) (p deep:Nat),H[r]? =some (rdO s p)→lim≤r→s.length≤16384→p≤s.length→deep≤13→2*(s.length-p)+1≤f→
 Fv X0 XP 25 lim [.ptr r 0,intD deep] H (fun v H'=>∃j q,QaB s f deep p= .ok (j,q)∧v= .d j.d∧H'=H.set r (rdO s q)) (fun z=>∃e,QaB s f deep p= .error e∧z=QdV e.1 e.2)
theorem QqO(c:UInt8):Qcv c=((((c.toNat:Int) !=0))&&(QaE c||([91,123,34,110,116,102,45]:Tx).contains c)):=by
 unfold Qcv
 simp only[List.contains_cons,List.contains_nil,Bool.or_false,Bool.or_assoc]
 by_cases h:c=0
 ·subst h;rfl
 ·have:(((c.toNat:Int) !=0))=true:=by
   have:=Qir (c:=c) (k:=0) (n:=0) h rfl
   simp[bne,this]
  rw[this,Bool.true_and]
theorem deep_eq(d:Nat):decide ((d:Int)>12)=decide (12<d):=by
 rw[Bool.eq_iff_iff];simp;omega
abbrev zJ:List AV:= [intD 0,intD 0,.d (.str []),.fslice [],.fslice []]
theorem duo{H:Qaa}{r:Nat}{o:AObj}(gr:H[r]? =some o):∃KK:AObj→AObj→AObj→Qaa,(∀x y z,KK x y z=H.set r x++ [y,z])∧(∀x y z,(KK x y z)[r]? =some x)∧(∀x y z,(KK x y z)[H.length]? =some y)∧(∀x y z,(KK x y z)[H.length+1]? =some z)∧
  (∀x y z x',(KK x y z).set r x'=KK x' y z)∧(∀x y z y',(KK x y z).set H.length y'=KK x y' z)∧(∀x y z z',(KK x y z).set (H.length+1) z'=KK x y z'):=by
 obtain⟨hr,e⟩:=List.getElem?_eq_some_iff.1 gr
 refine⟨fun x y z=>H.set r x++ [y,z],fun _ _ _=>rfl,fun x y z=> ?_,fun x y z=> ?_,fun x y z=> ?_,fun x y z x'=> ?_,fun x y z y'=> ?_,fun x y z z'=> ?_⟩
 ·simp only;rw[List.getElem?_append_left (by simpa using hr)];simp[hr]
 ·simp only;rw[List.getElem?_append_right (by simp)];simp
 ·simp only;rw[List.getElem?_append_right (by simp)];simp
 ·simp only;rw[List.set_append_left _ _ (by simpa using hr),List.set_set]
 ·simp only;rw[List.set_append_right _ _ (by simp)];simp
 ·simp only;rw[List.set_append_right _ _ (by simp)];simp
theorem trio{H:Qaa}{r:Nat}{o:AObj}(gr:H[r]? =some o):∃KK:AObj→AObj→AObj→AObj→Qaa,(∀x y z m,KK x y z m=H.set r x++ [y,z,m])∧(∀x y z m,(KK x y z m)[r]? =some x)∧(∀x y z m,(KK x y z m)[H.length]? =some y)∧(∀x y z m,(KK x y z m)[H.length+1]? =some z)∧(∀x y z m,(KK x y z m)[H.length+2]? =some m)∧
  (∀x y z m x',(KK x y z m).set r x'=KK x' y z m)∧(∀x y z m y',(KK x y z m).set H.length y'=KK x y' z m)∧(∀x y z m z',(KK x y z m).set (H.length+1) z'=KK x y z' m)∧(∀x y z m m',(KK x y z m).set (H.length+2) m'=KK x y z m'):=by
 obtain⟨hr,e⟩:=List.getElem?_eq_some_iff.1 gr
 refine⟨fun x y z m=>H.set r x++ [y,z,m],fun _ _ _ _=>rfl,fun x y z m=> ?_,fun x y z m=> ?_,fun x y z m=> ?_,fun x y z m=> ?_,fun x y z m x'=> ?_,fun x y z m y'=> ?_,fun x y z m z'=> ?_,fun x y z m z'=> ?_⟩
 ·simp only;rw[List.getElem?_append_left (by simpa using hr)];simp[hr]
 ·simp only;rw[List.getElem?_append_right (by simp)];simp
 ·simp only;rw[List.getElem?_append_right (by simp)];simp
 ·simp only;rw[List.getElem?_append_right (by simp)];simp
 ·simp only;rw[List.set_append_left _ _ (by simpa using hr),List.set_set]
 ·simp only;rw[List.set_append_right _ _ (by simp)];simp
 ·simp only;rw[List.set_append_right _ _ (by simp)];simp
 ·simp only;rw[List.set_append_right _ _ (by simp)];simp
theorem list_eq(s:Tx)(f deep:Nat)(first:Bool)(acc:List J)(p:Nat):Qbs s (f+1) deep first acc p=match QbI s first 93 p with
  |.error e=> .error e
  |.ok (false,p)=> .ok (acc,p)
  |.ok (true,p)=>match QaB s f (deep+1) p with
   |.error e=> .error e
   |.ok (j,q)=>Qbs s f deep false (acc++ [j]) q:=by
 conv=>lhs;unfold Qbs
 rfl
theorem Qop(l:List J):Qa9 5 (l.map J.d)=true:=by
 cases l with
 |nil=>rfl
 |cons j l=>rw[List.map_cons,jd];rfl
theorem headS(l:List Tx):Qa9 1 (l.map D.str)=true:=by
 cases l with
 |nil=>rfl
 |cons j l=>rfl
theorem tk25:Tab.tak 25=false:=rfl
abbrev QpU(acc:List J):AObj:= .cells [intD 4,intD 0,.d (.str []),.fslice [],.fslice (acc.map J.d)]
abbrev listT(acc:List J):AObj:= .cells [intD 4,intD 0,.d (.str []),.fslice [],.d (.slice (acc.map J.d))]
theorem Qqp(s:Tx)(f deep:Nat)(first:Bool)(ks:List Tx)(l:List J)(p:Nat):QaN s (f+1) deep first ks l p=match QbI s first 125 p with
  |.error e=> .error e
  |.ok (false,p)=> .ok (ks,l,p)
  |.ok (true,p)=>match Qbq s p with
   |.error e=> .error e
   |.ok (k,q)=>if ks.contains k then .error (14,p)else match QbP s 58 (Qac s q)with
    |.error e=> .error e
    |.ok r=>match QaB s f (deep+1) (Qac s r)with
     |.error e=> .error e
     |.ok (j,z)=>QaN s f deep false (ks++ [k]) (l++ [j]) z:=by
 conv=>lhs;unfold QaN
 rfl
abbrev QkY(ks:List Tx):List (D×AV):=ks.map fun k=>(D.str k,boolD true)
abbrev Qqm(ks:List Tx)(acc:List J):AObj:= .cells [intD 5,intD 0,.d (.str []),.fslice (ks.map D.str),.fslice (acc.map J.d)]
abbrev fldT(ks:List Tx)(acc:List J):AObj:= .cells [intD 5,intD 0,.d (.str []),.fslice (ks.map D.str),.d (.slice (acc.map J.d))]
abbrev QhB(ks:List Tx):AObj:= .map .str (QkY ks)
theorem Qk0(k:Tx):QcA .str (.str k)=true:=rfl
theorem Qpa(a b:Tx):D.beq (.str a) (.str b)=(a==b):=rfl
theorem Qk9(k:Tx):∀ks:List Tx,QeQ (.str k) (QkY ks)=if ks.contains k then some (boolD true)else none
 | []=>rfl
 |a::ks=>by
  simp only[QkY,List.map_cons,QeQ,Qpa,List.contains_cons]
  by_cases h:(k==a)=true
  ·simp[h]
  ·have:=Qk9 k ks
   simp only[QkY]at this
   simp[h,this]
theorem QmV(k:Tx):∀ks:List Tx,ks.contains k=false→QmW (.str k) (boolD true) (QkY ks)=QkY (ks++ [k])
 | [],_=>rfl
 |a::ks,h=>by
  simp only[List.contains_cons,Bool.or_eq_false_iff]at h
  simp only[QkY,List.map_cons,QmW,Qpa,List.cons_append,h.1]
  have:=QmV k ks h.2
  simp only[QkY]at this
  simp[this]
def FieldsOK(f:Nat):Prop:=∀(lim:Nat) (H:Qaa) (r:Nat) (s:Tx) (p deep:Nat),H[r]? =some (rdO s p)→lim≤r→s.length≤16384→p≤s.length→deep≤12→2*(s.length-p)+2≤f→
 Fv X0 XP 40 lim [.ptr r 0,intD deep] H (fun v H'=>∃y,QaN s f deep true [] [] p= .ok y∧v= .d (J.mk 5 0 [] y.1 y.2.1).d∧H'=H.set r (rdO s y.2.2)) (fun z=>∃e,QaN s f deep true [] [] p= .error e∧z=QdV e.1 e.2)
theorem QoA(f:Nat)(ih:∀g,g<f→Qkb g):FieldsOK f:=by
 intro lim H r s p deep gr hl hs hp hd hf
 refine QnJ (pn rfl) rfl (by first|exact rfl|exact pnP (pr:=Qbi) rfl) rfl (show code 40=some c40 from rfl) rfl ?_;simp only[List.length_cons,List.length_nil,List.cons_append,List.nil_append,simprocAttr]
 obtain⟨KK,kk0,kk1,kk2,kk3,kk4,kk5,hrl⟩:=QjR gr zC
 obtain⟨K3,d0,d1,d2,d3,d4,d5,d6,d7,d8⟩:=trio gr
 have hll:=Nat.le_trans hl hrl
 have hr:=(List.getElem?_eq_some_iff.1 gr).1
 have hll2:lim≤H.length+1:=by omega
 have hll3:lim≤H.length+2:=by omega
 have a1:(H++ [zC]).length=H.length+1:=by simp
 have a2:∀(B C:AObj),(H++ [zC]++ [B]).set (H.length+1) C=H++ [zC,C]:=fun B C=>by
  rw[List.append_assoc,List.set_append_right _ _ (by simp)];simp
 have a3:∀(B:AObj),(H++ [zC]++ [B])[H.length+1]? =some B:=fun B=>by
  rw[List.append_assoc,List.getElem?_append_right (by simp)];simp
 have a4:∀(B:AObj),(H++ [zC,B]).length=H.length+2:=fun B=>by simp
 have a5:∀(B C:AObj),H++ [zC,B]++ [C]=K3 (rdO s p) zC B C:=fun B C=>by
  rw[d0,QlW gr];simp
 (iterate 6 refine v_s (j_ a1 (j_ a2 (j_ a3 (j_ a4 (j_ a5 hll2))))) ?_)
 obtain⟨L,hL0⟩:∃L,L=QaN s f deep true [] [] p:=⟨_,rfl⟩
 rw[←hL0]
 (iterate 4 refine v_s trivial ?_)
 refine V_lp (fun m st=>∃first ks acc p' f',p'≤s.length∧ks.length≤p'∧acc.length≤p'∧m=s.length-p'∧f'≤f∧2*(s.length-p')+2≤f'∧L=QaN s f' deep first ks acc p'∧∃x:Nat→AV,st=⟨[.ptr r 0,intD deep,x 2,x 3,.ptr H.length 0,.ptr (H.length+1) 0,.mapr (H.length+2),boolD first,x 8,x 9,x 10,x 11,x 12],K3 (rdO s p') zC (Qqm ks acc) (QhB ks)⟩) ?_ _ _ ⟨true,[],[],p,f,hp,Nat.zero_le _,Nat.zero_le _,rfl,Nat.le_refl _,hf,hL0,Qao _ _ _ rfl⟩
 rintro m _ ⟨first,ks,acc,p',f',hp',hks,hac,rfl,hf1,hf2,hls,x,rfl⟩
 obtain⟨g,rfl⟩:∃g,f'=g+1:=⟨f'-1,by omega⟩
 rw[Qqp]at hls
 have hm:=QpQ lim _ r s p' first 125 (by decide) (d1 (rdO s p') zC (Qqm ks acc) (QhB ks)) hl hs hp'
 cases hmo:QbI s first 125 p' with
 |error e=>
  rw[hmo]at hls
  refine v_r trivial ?_
  refine Qas ?_;refine QaJ rfl ?_;simp only[zz,simprocAttr]
  exact EvP.fv (hm.noJ hmo) ⟨_,by rw[hls],rfl⟩
 |ok y=>
  obtain⟨b,q⟩:=y
  rw[hmo]at hls
  have hmb:=Qc9 hmo
  have hq:=hmb.2.1 hp'
  have em:Ev X0 39 lim [.ptr r 0,boolD first,.d (.int .u8 125)] (K3 (rdO s p') zC (Qqm ks acc) (QhB ks)) (boolD b) _:=hm.okJ hmo
  rw[d5]at em
  cases b with
  |false=>
   refine v_r trivial ?_
   (apply Qa6;focus(refine Evl.call (X:=X0) (em) (Evl.all fun k e1=> ?_);simp(maxSteps:=100000000) only[zz,zd,simprocAttr,e1];(first|done|with_reducible exact rfl)))<;>(try simp only[zp,simprocAttr])
   refine v_r (j_ d3 (j_ d2 (j_ d6 hll))) ?_
   refine Qca (vs:= [.d (J.mk 5 0 [] ks acc).d]) ?_ (d0 _ _ _ _) hr rfl rfl ⟨(ks,acc,q),by rw[hls],rfl,rfl⟩
   rw[jd]
   simp only[Qcc,zz,simprocAttr,d2];rfl
  |true=>
   simp only at hls
   have g1:=d1 (rdO s q) zC (Qqm ks acc) (QhB ks)
   refine v_r trivial ?_
   (apply Qa6;focus(refine Evl.call (X:=X0) (em) (Evl.all fun k e1=> ?_);simp(maxSteps:=100000000) only[zz,zd,simprocAttr,e1];(first|done|with_reducible exact rfl)))<;>(try simp only[zp,simprocAttr])
   refine v_r g1 ?_
   cases ht:Qbq s q with
   |error e=>
    rw[ht]at hls
    refine Qas ?_;refine QaJ rfl ?_;simp only[zz,simprocAttr]
    exact EvP.fv (Qo3 g1 hl hs hq ht) ⟨_,hls,rfl⟩
   |ok y=>
   obtain⟨k,q2⟩:=y
   rw[ht]at hls
   have htl:=QlJ ht
   have et:=Qo2 g1 hl hs hq ht
   rw[d5]at et
   simp only at hls
   have hfk:=Qk9 k ks
   have g2:=d4 (rdO s q2) zC (Qqm ks acc) (QhB ks)
   (apply Qa6;focus(refine Evl.call (X:=X0) (et) (Evl.all fun k e1=> ?_);simp(maxSteps:=100000000) only[zz,zd,simprocAttr,e1];(first|done|with_reducible exact rfl)))<;>(try simp only[zp,simprocAttr])
   cases hkc:ks.contains k with
   |true=>
    rw[hkc]at hfk hls
    simp only[if_true]at hfk hls
    refine v_r (j_ g2 (j_ hfk @Qk0)) ?_
    refine Qas ?_;refine QaJ rfl ?_;simp only[zz,simprocAttr]
    exact EvP.fv (Qbg _ _ r 14 q) ⟨_,hls,rfl⟩
   |false=>
   rw[hkc]at hfk hls
   simp only[Bool.false_eq_true,if_false]at hfk hls
   have hsk:=QmV k ks hkc
   have g3:=d1 (rdO s q2) zC (Qqm ks acc) (QhB (ks++ [k]))
   refine v_r (j_ g2 (j_ hfk (j_ @Qk0 (j_ hsk (j_ d8 hll3))))) ?_
   have hb1:=Qbz s q2
   have eb1:=QdB (pr:=Qbi) lim _ r s q2 g3 hl htl.2 hs
   rw[d5]at eb1
   (apply Qa6;focus(refine Evl.call (X:=X0) (eb1) (Evl.all fun k e1=> ?_);simp(maxSteps:=100000000) only[zz,zd,simprocAttr,e1];(first|done|with_reducible exact rfl)))<;>(try simp only[zp,simprocAttr])
   have g4:=d1 (rdO s (Qac s q2)) zC (Qqm ks acc) (QhB (ks++ [k]))
   rcases QcE s 58 (Qac s q2)with⟨h1,h2⟩|⟨h1,h2⟩
   rotate_left
   ·rw[h2]at hls
    refine v_r trivial ?_
    refine Qas ?_;refine QaJ rfl ?_;simp only[zz,simprocAttr]
    exact EvP.fv (Qjx lim _ r s _ 58 g4 (hb1.2 htl.2) h1) ⟨_,hls,rfl⟩
   rw[h2]at hls
   simp only at hls
   have h1l:=(List.getElem?_eq_some_iff.1 h1).1
   have hb2:=Qbz s (Qac s q2+1)
   have ew:Ev X0 57 lim [.ptr r 0,.d (.int .u8 58)] (K3 (rdO s (Qac s q2)) zC (Qqm ks acc) (QhB (ks++ [k]))) (.tuple []) _:=Qjw lim _ r s _ 58 g4 hl hs h1
   rw[d5]at ew
   have g5:=d1 (rdO s (Qac s q2+1)) zC (Qqm ks acc) (QhB (ks++ [k]))
   have eb2:=QdB (pr:=Qbi) lim _ r s _ g5 hl (by omega) hs
   rw[d5]at eb2
   refine v_r trivial ?_
   (apply Qa6;focus(refine Evl.call (X:=X0) (ew) (Evl.all fun k e1=> ?_);simp(maxSteps:=100000000) only[zz,zd,simprocAttr,e1];(first|done|with_reducible exact rfl)))<;>(try simp only[zp,simprocAttr])
   refine v_r trivial ?_
   (apply Qa6;focus(refine Evl.call (X:=X0) (eb2) (Evl.all fun k e1=> ?_);simp(maxSteps:=100000000) only[zz,zd,simprocAttr,e1];(first|done|with_reducible exact rfl)))<;>(try simp only[zp,simprocAttr])
   generalize hz:Qac s (Qac s q2+1)=z at hls hb2 eb2⊢
   have hs1:=headS ks
   have hs2:((ks.map D.str).length+1)*17≤70368744177664:=by rw[List.length_map];omega
   refine v_r (j_ d3 (j_ d7 (j_ hll2 (j_ hs1 hs2)))) ?_
   have hkk:ks.map D.str++ [D.str k]=(ks++ [k]).map D.str:=by simp
   rw[hkk]
   have wd:IntKind.i64.wrap ((deep:Int)+1)=((deep+1:Nat):Int):=QlE (by omega)
   have hv1:=ih g (by omega) lim _ r s z (deep+1) (d1 (rdO s z) zC (Qqm (ks++ [k]) acc) (QhB (ks++ [k]))) hl hs (hb2.2 (by omega)) (by omega) (by omega)
   have hv2:=ih g (by omega) lim _ r s z (deep+1) (d1 (rdO s z) zC (fldT (ks++ [k]) acc) (QhB (ks++ [k]))) hl hs (hb2.2 (by omega)) (by omega) (by omega)
   cases hvo:QaB s g (deep+1) z with
   |error e=>
    rw[hvo]at hls
    (apply V_pan;focus(refine Evl.panN (X:=X0) (hv1.noJ hvo) (Evl.panN (X:=X0) (hv2.noJ hvo) (Evl.all fun k e2 e1=> ?_));simp(maxSteps:=100000000) only[zz,zd,simprocAttr,wd,d3,d7,hll2,tk25,e2,e1];(first|done|with_reducible exact rfl)))
    exact⟨e,hls,rfl⟩
   |ok y=>
    obtain⟨j,z2⟩:=y
    rw[hvo]at hls
    have hvl:=QgE hvo
    have ev1:=hv1.okJ hvo
    have ev2:=hv2.okJ hvo
    rw[d5]at ev1 ev2
    have hj:=jd j
    have hz1:=Qop acc
    have hz2:((acc.map J.d).length+1)*85≤70368744177664:=by rw[List.length_map];omega
    (apply Qa6;focus(refine Evl.call (X:=X0) (ev1) (Evl.call (X:=X0) (ev2) (Evl.all fun k e2 e1=> ?_));simp(maxSteps:=100000000) only[zz,zd,simprocAttr,hj,hz1,hz2,wd,d3,d7,hll2,d5,e2,e1];(first|done|with_reducible exact rfl)))<;>(try simp only[zp,simprocAttr])
    refine v_r trivial ?_
    refine⟨s.length-z2,by omega,false,ks++ [k],acc++ [j],z2,g,hvl.2,by simp;omega,by simp;omega,rfl,by omega,by omega,hls,Qdu ?_ rfl⟩
    rw[←hj];simp only[Qqm,List.map_append,List.map_cons,List.map_nil]
theorem QnM(f:Nat)(ih:∀g,g<f+1→Qkb g):Qkb (f+1):=by
 intro lim H r s p deep gr hl hs hp hd hf
 refine QnJ (pn rfl) rfl (by first|exact rfl|exact pnP (pr:=Qbi) rfl) rfl (show code 25=some c25 from rfl) rfl ?_;simp only[List.length_cons,List.length_nil,List.cons_append,List.nil_append,simprocAttr]
 obtain⟨KK,kk0,kk1,kk2,kk3,kk4,kk5,hrl⟩:=QjR gr zC
 have hll:=Nat.le_trans hl hrl
 have hr:=(List.getElem?_eq_some_iff.1 gr).1
 (iterate 2 refine v_s trivial ?_)
 rw[←kk1]
 refine Qkc ?_
 (apply Qa6;focus(refine Evl.call (X:=X0) (QbA lim (KK (rdO s p) zC) r s p (kk2 _ _) hp) (Evl.all fun k e1=> ?_);simp(maxSteps:=100000000) only[zz,zd,simprocAttr,e1];(first|done|with_reducible exact rfl)))<;>(try simp only[zp,simprocAttr])
 generalize hc:nx s p=c
 refine Qkc ?_
 refine V_mid (fun st=>∃x:Nat→AV,st=⟨[.ptr r 0,intD deep,boolD (decide (12<deep)&&Qcv c),x 3,x 4,x 5,x 6,x 7,x 8,x 9,.ptr H.length 0,.d (.int .u8 c.toNat),x 12,x 13,x 14,x 15,x 16,x 17],KK (rdO s p) zC⟩) ?_ ?_
 ·rw[QqO,←Qqc,←deep_eq]
  cases hz:decide ((deep:Int)>12)with
  |false=>
   refine v_r (j_ hz @Bool.false_and) ?_
   exact Qao _ _ _ rfl
  |true=>
   cases h0:((c.toNat:Int) !=0)with
   |false=>
    refine v_r (j_ hz (j_ h0 @Bool.false_and)) ?_
    exact Qao _ _ _ rfl
   |true=>
    cases h1:QaE c with
    |true=>
     (apply Qa6;focus(refine Evl.call (X:=X0) (Qez lim (KK (rdO s p) zC) c) (Evl.all fun k e1=> ?_);simp(maxSteps:=100000000) only[zz,zd,simprocAttr,hz,h0,h1,Bool.true_and,Bool.true_or,e1];(first|done|with_reducible exact rfl)))<;>(try simp only[zp,simprocAttr])
     exact Qao _ _ _ rfl
    |false=>
     (apply Qa6;focus(refine Evl.call (X:=X0) (Qez lim (KK (rdO s p) zC) c) (Evl.call (X:=X0) (QhG lim (KK (rdO s p) zC) [91,123,34,110,116,102,45] c) (Evl.all fun k e2 e1=> ?_));simp(maxSteps:=100000000) only[zz,zd,simprocAttr,hz,h0,h1,Bool.true_and,Bool.false_or,e2,e1];(first|done|with_reducible exact rfl)))<;>(try simp only[zp,simprocAttr])
     exact Qao _ _ _ rfl
 rintro _ ⟨x,rfl⟩
 have k2:=kk2 (rdO s p) zC
 unfold QaB
 rw[hc]
 cases hb:(decide (12<deep)&&Qcv c)with
 |true=>
  rw[if_pos (by simpa using hb)]
  refine v_r trivial ?_
  refine Qas ?_;apply QbE 3;(focus(intro _;simp only[zz,simprocAttr,k2];(first|done|with_reducible exact rfl)));simp only[List.drop_succ_cons,List.drop_zero];refine QaJ rfl ?_;simp only[zz,simprocAttr]
  exact EvP.fv (Qbg _ _ r 12 p) ⟨_,rfl,rfl⟩
 |false=>
 rw[if_neg (by simpa using hb)]
 have k3:=kk3 (rdO s p) zC
 have wp:IntKind.i64.wrap ((p:Int)+1)=((p+1:Nat):Int):=QlE (by omega)
 by_cases h91:c=91
 ·have hpl:p<s.length:=Qfc (by rw[hc,h91];decide)
  have c1:((c.toNat:Int)==91)=true:=QiA h91 rfl
  have hd2:deep≤12:=by
   rw[h91]at hb
   simp only[show Qcv 91=true from rfl,Bool.and_true,decide_eq_false_iff_not]at hb
   omega
  rw[if_pos h91]
  refine v_r (j_ c1 (j_ k2 (j_ wp (j_ hl (j_ kk5 (j_ kk3 kk4)))))) ?_
  obtain⟨K2,d0,d1,d2,d3,d4,d5,d6⟩:=duo gr
  have hl2:(H.set r (.cells [.d (.str s),intD ((p+1:Nat):Int)])++ [zC]).length=H.length+1:=by simp
  have hs2:∀(A B C:AObj),(H.set r A++ [zC]++ [B]).set (H.length+1) C=K2 A zC C:=fun A B C=>by
   rw[d0,List.append_assoc,List.set_append_right _ _ (by simp)];simp
  have hg2:∀(A B:AObj),(H.set r A++ [zC]++ [B])[H.length+1]? =some B:=fun A B=>by
   rw[List.append_assoc,List.getElem?_append_right (by simp)];simp
  have hll2:lim≤H.length+1:=by omega
  rw[kk0]
  (iterate 2 refine v_s (j_ hl2 (j_ hs2 (j_ hg2 hll2))) ?_)
  (iterate 3 refine v_s trivial ?_)
  obtain⟨L,hL0⟩:∃L,L=Qbs s f deep true [] (p+1):=⟨_,rfl⟩
  rw[←hL0]
  refine V_lp (fun m st=>∃first acc p' f',p'≤s.length∧acc.length≤p'∧m=s.length-p'∧f'≤f∧2*(s.length-p')+2≤f'∧L=Qbs s f' deep first acc p'∧∃x:Nat→AV,st=⟨[.ptr r 0,intD deep,x 2,x 3,x 4,x 5,x 6,x 7,x 8,x 9,.ptr H.length 0,x 11,x 12,.ptr (H.length+1) 0,boolD first,x 15,x 16,x 17],K2 (rdO s p') zC (QpU acc)⟩) ?_ _ _ ⟨true,[],p+1,f,by omega,Nat.zero_le _,rfl,Nat.le_refl _,by omega,hL0,Qao _ _ _ rfl⟩
  rintro m _ ⟨first,acc,p',f',hp',hac,rfl,hf1,hf2,hls,x,rfl⟩
  obtain⟨g,rfl⟩:∃g,f'=g+1:=⟨f'-1,by omega⟩
  rw[list_eq]at hls
  have hm:=QpQ lim _ r s p' first 93 (by decide) (d1 (rdO s p') zC (QpU acc)) hl hs hp'
  cases hmo:QbI s first 93 p' with
  |error e=>
   rw[hmo]at hls
   refine v_r trivial ?_
   refine Qas ?_;refine QaJ rfl ?_;simp only[zz,simprocAttr]
   exact EvP.fv (hm.noJ hmo) ⟨_,by rw[hls],rfl⟩
  |ok y=>
   obtain⟨b,q⟩:=y
   rw[hmo]at hls
   have hmb:=Qc9 hmo
   have hq:=hmb.2.1 hp'
   have em:Ev X0 39 lim [.ptr r 0,boolD first,.d (.int .u8 93)] (K2 (rdO s p') zC (QpU acc)) (boolD b) _:=hm.okJ hmo
   rw[d4]at em
   cases b with
   |false=>
    refine v_r trivial ?_
    (apply Qa6;focus(refine Evl.call (X:=X0) (em) (Evl.all fun k e1=> ?_);simp(maxSteps:=100000000) only[zz,zd,simprocAttr,e1];(first|done|with_reducible exact rfl)))<;>(try simp only[zp,simprocAttr])
    refine v_r (j_ d3 (j_ d2 (j_ d5 hll))) ?_
    refine Qca (vs:= [.d (J.mk 4 0 [] [] acc).d]) ?_ (d0 _ _ _) hr rfl rfl ⟨_,q,by rw[hls],rfl,rfl⟩
    rw[jd]
    simp only[Qcc,zz,simprocAttr,d2];rfl
   |true=>
    have wd:IntKind.i64.wrap ((deep:Int)+1)=((deep+1:Nat):Int):=QlE (by omega)
    have hv1:=ih g (by omega) lim _ r s q (deep+1) (d1 (rdO s q) zC (QpU acc)) hl hs hq (by omega) (by omega)
    have hv2:=ih g (by omega) lim _ r s q (deep+1) (d1 (rdO s q) zC (listT acc)) hl hs hq (by omega) (by omega)
    simp only at hls
    refine v_r trivial ?_
    (apply Qa6;focus(refine Evl.call (X:=X0) (em) (Evl.all fun k e1=> ?_);simp(maxSteps:=100000000) only[zz,zd,simprocAttr,e1];(first|done|with_reducible exact rfl)))<;>(try simp only[zp,simprocAttr])
    refine v_r trivial ?_
    cases hvo:QaB s g (deep+1) q with
    |error e=>
     (apply V_pan;focus(refine Evl.panN (X:=X0) (hv1.noJ hvo) (Evl.panN (X:=X0) (hv2.noJ hvo) (Evl.all fun k e2 e1=> ?_));simp(maxSteps:=100000000) only[zz,zd,simprocAttr,wd,d3,d6,hll2,tk25,e2,e1];(first|done|with_reducible exact rfl)))
     exact⟨e,by rw[hls,hvo],rfl⟩
    |ok y=>
     obtain⟨j,z⟩:=y
     have hvl:=QgE hvo
     have ev1:=hv1.okJ hvo
     have ev2:=hv2.okJ hvo
     rw[d4]at ev1 ev2
     have hj:=jd j
     have hz1:=Qop acc
     have hz2:((acc.map J.d).length+1)*85≤70368744177664:=by rw[List.length_map];omega
     (apply Qa6;focus(refine Evl.call (X:=X0) (ev1) (Evl.call (X:=X0) (ev2) (Evl.all fun k e2 e1=> ?_));simp(maxSteps:=100000000) only[zz,zd,simprocAttr,hj,hz1,hz2,wd,d3,d6,hll2,d4,e2,e1];(first|done|with_reducible exact rfl)))<;>(try simp only[zp,simprocAttr])
     refine v_r trivial ?_
     refine⟨s.length-z,by omega,false,acc++ [j],z,g,hvl.2,by simp;omega,rfl,by omega,by omega,by rw[hls,hvo],Qdu ?_ rfl⟩
     rw[←hj];simp only[QpU,List.map_append,List.map_cons,List.map_nil]
 have c1:((c.toNat:Int)==91)=false:=Qir h91 rfl
 rw[if_neg h91]
 by_cases h123:c=123
 ·have hpl:p<s.length:=Qfc (by rw[hc,h123];decide)
  have c2:((c.toNat:Int)==123)=true:=QiA h123 rfl
  have hd2:deep≤12:=by
   rw[h123]at hb
   simp only[show Qcv 123=true from rfl,Bool.and_true,decide_eq_false_iff_not]at hb
   omega
  rw[if_pos h123]
  refine v_r (j_ c1 (j_ c2 (j_ k2 (j_ wp (j_ hl (j_ kk5 (j_ kk3 kk4))))))) ?_
  have hf0:=QoA f (fun g hg=>ih g (by omega)) lim _ r s (p+1) deep (kk2 (rdO s (p+1)) zC) hl hs (by omega) hd2 (by omega)
  cases ht:QaN s f deep true [] [] (p+1)with
  |error e=>
   refine Qas ?_;refine QaJ rfl ?_;simp only[zz,simprocAttr]
   exact EvP.fv (hf0.noP ht) ⟨_,rfl,rfl⟩
  |ok y=>
   have ef:=hf0.okP ht
   rw[kk4]at ef
   obtain⟨ks,l,q⟩:=y
   have hj:=jd (J.mk 5 0 [] ks l)
   (apply Qa6;focus(refine Evl.call (X:=X0) (ef) (Evl.all fun k e1=> ?_);simp(maxSteps:=100000000) only[zz,zd,simprocAttr,hj,kk5,kk3,kk4,hll,e1];(first|done|with_reducible exact rfl)))<;>(try simp only[zp,simprocAttr])
   refine v_r trivial ?_
   refine Qca (vs:= [.d (J.mk 5 0 [] ks l).d]) ?_ (kk0 _ _) hr rfl rfl ⟨_,q,rfl,rfl,rfl⟩
   rw[jd]
   simp only[Qcc,zz,simprocAttr,kk3]
 have c2:((c.toNat:Int)==123)=false:=Qir h123 rfl
 rw[if_neg h123]
 by_cases h34:c=34
 ·have c3:((c.toNat:Int)==34)=true:=QiA h34 rfl
  rw[if_pos h34]
  refine v_r (j_ c1 (j_ c2 c3)) ?_
  cases ht:Qbq s p with
  |error e=>
   refine Qas ?_;refine QaJ rfl ?_;simp only[zz,simprocAttr]
   exact EvP.fv (Qo3 k2 hl hs hp ht) ⟨_,rfl,rfl⟩
  |ok y=>
   obtain⟨t,q⟩:=y
   (apply Qa6;focus(refine Evl.call (X:=X0) (Qo2 k2 hl hs hp ht) (Evl.all fun k e1=> ?_);simp(maxSteps:=100000000) only[zz,zd,simprocAttr,kk5,kk3,kk4,hll,e1];(first|done|with_reducible exact rfl)))<;>(try simp only[zp,simprocAttr])
   refine v_r trivial ?_
   refine Qca (vs:= [.d (J.mk 3 0 t [] []).d]) ?_ (kk0 _ _) hr rfl rfl ⟨_,q,rfl,rfl,rfl⟩
   rw[jd]
   simp only[Qcc,zz,simprocAttr,kk3];rfl
 have c3:((c.toNat:Int)==34)=false:=Qir h34 rfl
 rw[if_neg h34]
 by_cases h110:c=110
 ·have c4:((c.toNat:Int)==110)=true:=QiA h110 rfl
  rw[if_pos h110]
  refine v_r (j_ c1 (j_ c2 (j_ c3 c4))) ?_
  have hw:=QlF (pr:=Qbi) (pP:=Qd4) lim _ r s p [110,117,108,108] 0 0 k2 hl hs (by decide) hp
  cases ht:QbF s [110,117,108,108] p with
  |error e=>
   refine Qas ?_;apply QbE 1;(focus(intro _;simp only[zz,simprocAttr];(first|done|with_reducible exact rfl)));simp only[List.drop_succ_cons,List.drop_zero];refine QaJ rfl ?_;simp only[zz,simprocAttr]
   exact EvP.fv (hw.noP ht) ⟨_,rfl,rfl⟩
  |ok q=>
   (apply Qa6;focus(refine Evl.call (X:=X0) (hw.okP ht) (Evl.all fun k e1=> ?_);simp(maxSteps:=100000000) only[zz,zd,simprocAttr,kk5,kk3,kk4,hll,e1];(first|done|with_reducible exact rfl)))<;>(try simp only[zp,simprocAttr])
   refine v_r trivial ?_
   refine Qca (vs:= [.d (J.mk 0 0 [] [] []).d]) ?_ (kk0 _ _) hr rfl rfl ⟨_,q,rfl,rfl,rfl⟩
   rw[jd]
   simp only[Qcc,zz,simprocAttr,kk3];rfl
 have c4:((c.toNat:Int)==110)=false:=Qir h110 rfl
 rw[if_neg h110]
 by_cases h116:c=116
 ·have c5:((c.toNat:Int)==116)=true:=QiA h116 rfl
  rw[if_pos h116]
  refine v_r (j_ c1 (j_ c2 (j_ c3 (j_ c4 c5)))) ?_
  have hw:=QlF (pr:=Qbi) (pP:=Qd4) lim _ r s p [116,114,117,101] 1 1 k2 hl hs (by decide) hp
  cases ht:QbF s [116,114,117,101] p with
  |error e=>
   refine Qas ?_;apply QbE 1;(focus(intro _;simp only[zz,simprocAttr];(first|done|with_reducible exact rfl)));simp only[List.drop_succ_cons,List.drop_zero];refine QaJ rfl ?_;simp only[zz,simprocAttr]
   exact EvP.fv (hw.noP ht) ⟨_,rfl,rfl⟩
  |ok q=>
   (apply Qa6;focus(refine Evl.call (X:=X0) (hw.okP ht) (Evl.all fun k e1=> ?_);simp(maxSteps:=100000000) only[zz,zd,simprocAttr,kk5,kk3,kk4,hll,e1];(first|done|with_reducible exact rfl)))<;>(try simp only[zp,simprocAttr])
   refine v_r trivial ?_
   refine Qca (vs:= [.d (J.mk 1 1 [] [] []).d]) ?_ (kk0 _ _) hr rfl rfl ⟨_,q,rfl,rfl,rfl⟩
   rw[jd]
   simp only[Qcc,zz,simprocAttr,kk3];rfl
 have c5:((c.toNat:Int)==116)=false:=Qir h116 rfl
 rw[if_neg h116]
 by_cases h102:c=102
 ·have c6:((c.toNat:Int)==102)=true:=QiA h102 rfl
  rw[if_pos h102]
  refine v_r (j_ c1 (j_ c2 (j_ c3 (j_ c4 (j_ c5 c6))))) ?_
  have hw:=QlF (pr:=Qbi) (pP:=Qd4) lim _ r s p [102,97,108,115,101] 1 0 k2 hl hs (by decide) hp
  cases ht:QbF s [102,97,108,115,101] p with
  |error e=>
   refine Qas ?_;apply QbE 1;(focus(intro _;simp only[zz,simprocAttr];(first|done|with_reducible exact rfl)));simp only[List.drop_succ_cons,List.drop_zero];refine QaJ rfl ?_;simp only[zz,simprocAttr]
   exact EvP.fv (hw.noP ht) ⟨_,rfl,rfl⟩
  |ok q=>
   (apply Qa6;focus(refine Evl.call (X:=X0) (hw.okP ht) (Evl.all fun k e1=> ?_);simp(maxSteps:=100000000) only[zz,zd,simprocAttr,kk5,kk3,kk4,hll,e1];(first|done|with_reducible exact rfl)))<;>(try simp only[zp,simprocAttr])
   refine v_r trivial ?_
   refine Qca (vs:= [.d (J.mk 1 0 [] [] []).d]) ?_ (kk0 _ _) hr rfl rfl ⟨_,q,rfl,rfl,rfl⟩
   rw[jd]
   simp only[Qcc,zz,simprocAttr,kk3];rfl
 have c6:((c.toNat:Int)==102)=false:=Qir h102 rfl
 rw[if_neg h102]
 refine v_r (j_ c1 (j_ c2 (j_ c3 (j_ c4 (j_ c5 c6))))) ?_
 have hw:=QpO lim _ r s p k2 hl hs hp
 cases ht:QaZ s p with
 |error e=>
  refine Qas ?_;refine QaJ rfl ?_;simp only[zz,simprocAttr]
  exact EvP.fv (hw.noJ ht) ⟨_,rfl,rfl⟩
 |ok y=>
  obtain⟨j,q⟩:=y
  have hj:=jd j
  (apply Qa6;focus(refine Evl.call (X:=X0) (hw.okJ ht) (Evl.all fun k e1=> ?_);simp(maxSteps:=100000000) only[zz,zd,simprocAttr,hj,kk5,kk3,kk4,hll,e1];(first|done|with_reducible exact rfl)))<;>(try simp only[zp,simprocAttr])
  refine v_r trivial ?_
  refine Qca (vs:= [.d j.d]) ?_ (kk0 _ _) hr rfl rfl ⟨_,q,rfl,rfl,rfl⟩
  rw[jd]
  simp only[Qcc,zz,simprocAttr,kk3]
theorem Qkh(f:Nat):Qkb f:=by
 induction f using Nat.strongRecOn with
 |_ f ih=>
  cases f with
  |zero=>intro _ _ _ _ _ _ _ _ _ _ _ h;omega
  |succ f=>exact QnM f ih
mutual
def wt:J→Nat
 |.mk _ _ t ks l=>1+t.length+(ks.map fun k=>k.length+1).sum+wts l
def wts:List J→Nat
 | []=>0
 |a::l=>wt a+wts l
end
theorem QdQ(j:J):wt j=1+j.t.length+(j.ks.map fun k=>k.length+1).sum+wts j.l:=by
 obtain⟨k,n,t,ks,l⟩:=j
 conv=>lhs;unfold wt
 rfl
theorem Qcj(a:J)(l:List J):wts (a::l)=wt a+wts l:=by
 conv=>lhs;unfold wts
theorem QfD:∀l m:List J,wts (l++m)=wts l+wts m
 | [],m=>by simp[wts]
 |a::l,m=>by rw[List.cons_append,Qcj,Qcj,QfD l m];omega
theorem Qkd(j:J):1≤wt j:=by rw[QdQ];omega
theorem QoS:∀l:List J,l.length≤wts l
 | []=>Nat.zero_le _
 |a::l=>by have:=QoS l;have:=Qkd a;rw[Qcj,List.length_cons];omega
theorem QoR:∀ {l:List J} {y:J},y∈l→wt y≤wts l
 |a::l,y,h=>by
  rw[Qcj]
  rcases List.mem_cons.1 h with rfl|h
  ·omega
  ·have:=QoR h;omega
theorem Qo9:∀ks:List Tx,ks.length≤(ks.map fun k=>k.length+1).sum
 | []=>Nat.zero_le _
 |a::l=>by have:=Qo9 l;simp only[List.length_cons,List.map_cons,List.sum_cons];omega
theorem Qo8:∀ {ks:List Tx} {k:Tx},k∈ks→k.length<(ks.map fun k=>k.length+1).sum
 |a::l,k,h=>by
  simp only[List.map_cons,List.sum_cons]
  rcases List.mem_cons.1 h with rfl|h
  ·omega
  ·have:=Qo8 h;omega
theorem wt_t(j:J):j.t.length<wt j:=by rw[QdQ];omega
theorem QnK(j:J):j.ks.length≤wt j:=by have:=Qo9 j.ks;rw[QdQ];omega
theorem wt_l(j:J):j.l.length≤wt j:=by have:=QoS j.l;rw[QdQ];omega
theorem wt_key{j:J}{k:Tx}(h:k∈j.ks):k.length≤wt j:=by have:=Qo8 h;rw[QdQ];omega
theorem Qga{j y:J}(h:y∈j.l):wt y<wt j:=by have:=QoR h;rw[QdQ j];omega
def OrdOK:Nat→J→Prop
 |0,_=>False
 |n+1,j=>(j.k=5→j.ks.length=j.l.length∧j.ks.Nodup)∧(j.k≠5→j.ks= [])∧(j.k≠4→j.k≠5→j.l= [])∧∀y∈j.l,OrdOK n y
theorem OrdOK.succ:∀ {n:Nat} {j:J},OrdOK n j→OrdOK (n+1) j
 |0,_,h=>h.elim
 |n+1,j,⟨h1,h2,h3,h4⟩=>⟨h1,h2,h3,fun y hy=>(h4 y hy).succ⟩
theorem OrdOK.mono{n m:Nat}{j:J}(h:OrdOK n j)(hm:n≤m):OrdOK m j:=by
 induction hm with
 |refl=>exact h
 |step _ ih=>exact ih.succ
abbrev OrdE(j:J):Prop:=∃n,OrdOK n j
theorem Ql0:∀ {l:List J},(∀y∈l,OrdE y)→∃n,∀y∈l,OrdOK n y
 | [],_=>⟨0,by simp⟩
 |a::l,h=>by
  obtain⟨n,hn⟩:=h a (by simp)
  obtain⟨m,hm⟩:=Ql0 (l:=l) fun y hy=>h y (List.mem_cons_of_mem _ hy)
  refine⟨max n m,fun y hy=> ?_⟩
  rcases List.mem_cons.1 hy with rfl|hy
  ·exact hn.mono (Nat.le_max_left _ _)
  ·exact(hm y hy).mono (Nat.le_max_right _ _)
theorem Qfa{k n:Int}{t:Tx}(h:k≠5):OrdE (.mk k n t [] []):=
 ⟨1,fun e=>absurd e h,fun _=>rfl,fun _ _=>rfl,fun y hy=>by cases hy⟩
theorem QfE(k n:Int)(t:Tx):wt (.mk k n t [] [])=1+t.length:=by rw[QdQ];simp[J.t,J.ks,J.l,wts]
theorem Qfj:∀ {n:Nat} {j:J},goodB n j=true→OrdOK n j
 |0,_,h=>by cases h
 |n+1,j,h=>by
  obtain⟨h1,h2⟩:=Bool.and_eq_true_iff.1 (show(Qan j&&j.l.all (goodB n))=true from h)
  have hall:∀y∈j.l,OrdOK n y:=fun y hy=>Qfj (List.all_eq_true.1 h2 y hy)
  have hemp:Qbj j=true→j.ks= []∧j.l= []:=fun h=>by
   have:=of_decide_eq_true h
   exact⟨List.length_eq_zero_iff.1 (by omega),List.length_eq_zero_iff.1 (by omega)⟩
  unfold Qan at h1
  split at h1
  ·rename_i hk
   obtain⟨e1,e2⟩:=hemp (by simp only[Bool.and_eq_true]at h1;exact h1.1.1)
   exact⟨(fun e=>absurd (hk.symm.trans e) (by decide)),fun _=>e1,fun _ _=>e2,hall⟩
  split at h1
  ·rename_i hk
   obtain⟨e1,e2⟩:=hemp (by simp only[Bool.and_eq_true]at h1;exact h1.1.1)
   exact⟨(fun e=>absurd (hk.symm.trans e) (by decide)),fun _=>e1,fun _ _=>e2,hall⟩
  split at h1
  ·rename_i hk
   obtain⟨e1,e2⟩:=hemp (by simp only[Bool.and_eq_true]at h1;exact h1.1.1.1)
   exact⟨(fun e=>absurd (hk.symm.trans e) (by decide)),fun _=>e1,fun _ _=>e2,hall⟩
  split at h1
  ·rename_i hk
   obtain⟨e1,e2⟩:=hemp (by simp only[Bool.and_eq_true]at h1;exact h1.1.1)
   exact⟨(fun e=>absurd (hk.symm.trans e) (by decide)),fun _=>e1,fun _ _=>e2,hall⟩
  split at h1
  ·rename_i hk
   simp only[Bool.and_eq_true,decide_eq_true_eq]at h1
   exact⟨(fun e=>absurd (hk.symm.trans e) (by decide)),fun _=>List.length_eq_zero_iff.1 h1.1.1,fun e=>absurd hk e,hall⟩
  split at h1
  ·rename_i hk
   simp only[Bool.and_eq_true,decide_eq_true_eq,Qbr]at h1
   exact⟨fun _=>⟨h1.1.1.1,h1.2.2⟩,fun e=>absurd hk e,fun _ e=>absurd hk e,hall⟩
  ·cases h1
theorem Qh9{s:Tx}:∀ {f:Nat} {acc:Tx} {p q:Nat} {t:Tx},QaW s f acc p= .ok (t,q)→t.length+4*p≤acc.length+4*q
 |0,_,_,_,_,h=>by cases h
 |f+1,acc,p,q,t,h=>by
  unfold QaW at h
  split at h
  ·cases h
  ·split at h
   ·cases h
   ·split at h
    ·cases h;omega
    ·split at h
     ·split at h
      ·cases h
      ·rename_i n r he
       have:=Qh9 h
       have:=(Qqt he).1
       have:(Qco n).length≤4:=by unfold Qco;(repeat' split)<;>simp
       rw[List.length_append]at*
       omega
     ·have:=Qh9 h
      rw[List.length_append,List.length_singleton]at this
      omega
theorem QjA{s:Tx}{p q:Nat}{t:Tx}(h:Qbq s p= .ok (t,q)):t.length+4*p+4≤4*q:=by
 unfold Qbq at h
 split at h
 ·cases h
 ·rename_i r hw
  have:=(QeI hw).1
  have:=Qh9 h
  simp only[List.length_nil]at this
  omega
theorem Qof{s:Tx}{p q:Nat}{j:J}(h:QaZ s p= .ok (j,q)):OrdE j∧wt j=1:=by
 unfold QaZ at h
 simp only at h
 generalize(if nx s p=45 then p+1 else p)=f at h
 split at h
 ·split at h
  ·cases h
  ·split at h
   ·cases h
   ·cases h;exact⟨Qfa (by decide),QfE _ _ _⟩
 ·cases h
theorem all_ord(s:Tx):∀f:Nat,(∀deep p j q,QaB s f deep p= .ok (j,q)→OrdE j∧wt j+8*p≤8*q)∧
  (∀deep first acc p l q,Qbs s f deep first acc p= .ok (l,q)→(∀y∈acc,OrdE y)→(∀y∈l,OrdE y)∧wts l+8*p+8≤wts acc+8*q)∧
  (∀deep first ks acc p k l q,QaN s f deep first ks acc p= .ok (k,l,q)→ks.length=acc.length→ks.Nodup→(∀y∈acc,OrdE y)→k.length=l.length∧k.Nodup∧(∀y∈l,OrdE y)∧wts l+(k.map fun k=>k.length+1).sum+8*p+8≤wts acc+(ks.map fun k=>k.length+1).sum+8*q):=by
 intro f
 induction f with
 |zero=>
  refine⟨fun _ _ _ _ h=> ?_,fun _ _ _ _ _ _ h=> ?_,fun _ _ _ _ _ _ _ _ h=> ?_⟩
  ·unfold QaB at h;cases h
  ·unfold Qbs at h;cases h
  ·unfold QaN at h;cases h
 |succ f ih=>
  refine⟨fun deep p j q h=> ?_,fun deep first acc p l q h hy=> ?_,fun deep first ks acc p k l q h hk hd hy=> ?_⟩
  ·have hpq:=QgE h
   unfold QaB at h
   split at h
   ·cases h
   split at h
   ·split at h
    ·cases h
    ·rename_i l q' h1
     obtain⟨r2,r3⟩:=ih.2.1 _ _ _ _ _ _ h1 (by simp)
     cases h
     obtain⟨n,hn⟩:=Ql0 r2
     refine⟨⟨n+1,(fun e=>absurd (show(4:Int)=5 from e) (by decide)),fun _=>rfl,fun e=>absurd rfl e,hn⟩, ?_⟩
     rw[QdQ]
     simp only[J.t,J.ks,J.l,List.length_nil,List.map_nil,List.sum_nil,wts]at r3⊢
     omega
   split at h
   ·split at h
    ·cases h
    ·rename_i k l q' h1
     obtain⟨r2,r3,r4,r5⟩:=ih.2.2 _ _ _ _ _ _ _ _ h1 rfl List.nodup_nil (by simp)
     cases h
     obtain⟨n,hn⟩:=Ql0 r4
     refine⟨⟨n+1,(fun _=>⟨r2,r3⟩),fun e=>absurd rfl e,fun _ e=>absurd rfl e,hn⟩, ?_⟩
     rw[QdQ]
     simp only[J.t,J.ks,J.l,List.length_nil,List.map_nil,List.sum_nil,wts]at r5⊢
     omega
   split at h
   ·split at h
    ·cases h
    ·rename_i t q' h1
     have:=QjA h1
     cases h
     exact⟨Qfa (by decide),by rw[QfE];omega⟩
   split at h
   ·split at h
    ·cases h
    ·cases h;exact⟨Qfa (by decide),by rw[QfE];simp only[List.length_nil];omega⟩
   split at h
   ·split at h
    ·cases h
    ·cases h;exact⟨Qfa (by decide),by rw[QfE];simp only[List.length_nil];omega⟩
   split at h
   ·split at h
    ·cases h
    ·cases h;exact⟨Qfa (by decide),by rw[QfE];simp only[List.length_nil];omega⟩
   obtain⟨r1,r2⟩:=Qof h
   exact⟨r1,by rw[r2];omega⟩
  ·unfold Qbs at h
   split at h
   ·cases h
   ·rename_i q' h1
    have:=(Qc9 h1).2.2 rfl
    cases h
    exact⟨hy,by omega⟩
   ·rename_i p' h1
    have:=Qc9 h1
    split at h
    ·cases h
    ·rename_i j q' h2
     obtain⟨hj,hw⟩:=ih.1 _ _ _ _ h2
     obtain⟨r1,r2⟩:=ih.2.1 _ _ _ _ _ _ h fun y hy'=>by
      rcases List.mem_append.1 hy' with h'|h'
      ·exact hy y h'
      ·rw[List.mem_singleton.1 h'];exact hj
     refine⟨r1, ?_⟩
     rw[QfD]at r2
     simp only[wts]at r2
     omega
  ·unfold QaN at h
   split at h
   ·cases h
   ·rename_i q' h1
    have:=(Qc9 h1).2.2 rfl
    cases h
    exact⟨hk,hd,hy,by omega⟩
   ·rename_i p' h1
    have hm:=Qc9 h1
    split at h
    ·cases h
    ·rename_i k' q' h2
     have ht:=QjA h2
     split at h
     ·cases h
     ·rename_i hkc
      split at h
      ·cases h
      ·rename_i r h3
       have hw:=QeI h3
       split at h
       ·cases h
       ·rename_i j z h4
        have b1:=Qbz s q'
        have b2:=Qbz s r
        obtain⟨hj,hjw⟩:=ih.1 _ _ _ _ h4
        obtain⟨r1,r2,r3,r4⟩:=ih.2.2 _ _ _ _ _ _ _ _ h (by simp[hk]) (by
         refine List.nodup_append.2 ⟨hd,by simp,fun a ha b hb e=> ?_⟩
         have:b=k':=by simpa using hb
         subst this;subst e
         exact hkc (by simpa using ha)) fun y hy'=>by
          rcases List.mem_append.1 hy' with h'|h'
          ·exact hy y h'
          ·rw[List.mem_singleton.1 h'];exact hj
        refine⟨r1,r2,r3, ?_⟩
        rw[QfD]at r4
        simp only[wts,List.map_append,List.map_cons,List.map_nil,List.sum_append,List.sum_cons,List.sum_nil]at r4
        omega
theorem QgZ{s:Tx}{f deep p q:Nat}{j:J}(h:QaB s f deep p= .ok (j,q)):OrdE j∧wt j+8*p≤8*q:=(all_ord s f).1 _ _ _ _ h
variable {pr:FuncId→Option QbO} {pP:FuncId→Option Qfy} [POK pr] [PPOK pr pP]
theorem trey(H:Qaa)(o:AObj):∃K:AObj→AObj→Qaa,(∀a b,K a b=H++ [o,a,b])∧(∀a b,(K a b)[H.length]? =some o)∧(∀a b,(K a b)[H.length+1]? =some a)∧(∀a b,(K a b)[H.length+2]? =some b)∧
  (∀a b a',(K a b).set (H.length+1) a'=K a' b)∧(∀a b b',(K a b).set (H.length+2) b'=K a b'):=by
 refine⟨fun a b=>H++ [o,a,b],fun _ _=>rfl,fun a b=> ?_,fun a b=> ?_,fun a b=> ?_,fun a b a'=> ?_,fun a b b'=> ?_⟩
 ·simp only;rw[List.getElem?_append_right (by simp)];simp
 ·simp only;rw[List.getElem?_append_right (by simp)];simp
 ·simp only;rw[List.getElem?_append_right (by simp)];simp
 ·simp only;rw[List.set_append_right _ _ (by simp)];simp
 ·simp only;rw[List.set_append_right _ _ (by simp)];simp
abbrev zO:AObj:= .cells [intD 0,intD 0,.d (.str []),.fslice [],.fslice []]
abbrev nO(n:Int):AObj:= .cells [intD n]
abbrev jO(j:J):AObj:= .cells (jC j)
theorem Qqi(H:Qaa):∃K:AObj→AObj→AObj→AObj→Qaa,(∀a b c o,K a b c o=H++ [a,b,c,o])∧(∀a b c o,(K a b c o)[H.length]? =some a)∧(∀a b c o,(K a b c o)[H.length+1]? =some b)∧(∀a b c o,(K a b c o)[H.length+2]? =some c)∧(∀a b c o,(K a b c o)[H.length+3]? =some o)∧
  (∀a b c o a',(K a b c o).set H.length a'=K a' b c o)∧(∀a b c o a',(K a b c o).set (H.length+1) a'=K a a' c o)∧(∀a b c o a',(K a b c o).set (H.length+2) a'=K a b a' o)∧(∀a b c o a',(K a b c o).set (H.length+3) a'=K a b c a'):=by
 refine⟨fun a b c o=>H++ [a,b,c,o],fun _ _ _ _=>rfl, ?_, ?_, ?_, ?_, ?_, ?_, ?_, ?_⟩<;>intros<;>simp only
 ·rw[List.getElem?_append_right (by omega)];simp
 ·rw[List.getElem?_append_right (by omega)];simp
 ·rw[List.getElem?_append_right (by omega)];simp
 ·rw[List.getElem?_append_right (by omega)];simp
 ·rw[List.set_append_right _ _ (by omega)];simp
 ·rw[List.set_append_right _ _ (by omega)];simp
 ·rw[List.set_append_right _ _ (by omega)];simp
 ·rw[List.set_append_right _ _ (by omega)];simp
theorem three(H:Qaa):∃K:AObj→AObj→AObj→Qaa,(∀a b c,K a b c=H++ [a,b,c])∧(∀a b c,(K a b c)[H.length]? =some a)∧(∀a b c,(K a b c)[H.length+1]? =some b)∧(∀a b c,(K a b c)[H.length+2]? =some c)∧
  (∀a b c a',(K a b c).set H.length a'=K a' b c)∧(∀a b c a',(K a b c).set (H.length+1) a'=K a a' c)∧(∀a b c a',(K a b c).set (H.length+2) a'=K a b a'):=by
 refine⟨fun a b c=>H++ [a,b,c],fun _ _ _=>rfl, ?_, ?_, ?_, ?_, ?_, ?_⟩<;>intros<;>simp only
 ·rw[List.getElem?_append_right (by omega)];simp
 ·rw[List.getElem?_append_right (by omega)];simp
 ·rw[List.getElem?_append_right (by omega)];simp
 ·rw[List.set_append_right _ _ (by omega)];simp
 ·rw[List.set_append_right _ _ (by omega)];simp
 ·rw[List.set_append_right _ _ (by omega)];simp
theorem QoY{H:Qaa}{o:AObj}{K:AObj→AObj→Qaa}(kk:∀a b,K a b=H++ [o,a,b])(a:AObj)(M:List AObj):∃G:AObj→AObj→Qaa,(∀b q,K a b++M++ [q]=G b q)∧(∀b,(K a b++M).length=H.length+3+M.length)∧(∀b q,(G b q)[H.length+3+M.length]? =some q)∧(∀b q,(G b q)[H.length+2]? =some b)∧(∀b q b',(G b q).set (H.length+2) b'=G b' q)∧(∀b q q',(G b q).set (H.length+3+M.length) q'=G b q'):=by
 have hl:∀b,(K a b++M).length=H.length+3+M.length:=fun b=>by rw[kk];simp;omega
 refine⟨fun b q=>K a b++M++ [q],fun _ _=>rfl,hl,fun b q=> ?_,fun b q=> ?_,fun b q b'=> ?_,fun b q q'=> ?_⟩
 ·simp only;rw[←hl b];simp
 ·simp only[kk,List.append_assoc];rw[List.getElem?_append_right (by omega)];simp
 ·simp only[kk,List.append_assoc];rw[List.set_append_right _ _ (by omega)];simp
 ·simp only;rw[←hl b,List.set_append_right _ _ (by omega)];simp
abbrev Qgj(k n:Int)(t:Tx)(ks:List Tx)(l:List J):AObj:= .cells [.d (.int .i64 k),.d (.int .i64 n),.d (.str t),.fslice (ks.map D.str),.fslice (l.map J.d)]
abbrev outT(k n:Int)(t:Tx)(ks:List Tx)(l:List J):AObj:= .cells [.d (.int .i64 k),.d (.int .i64 n),.d (.str t),.fslice (ks.map D.str),.d (.slice (l.map J.d))]
abbrev outL(k n:Int)(t:Tx)(l:List J):AObj:= .cells [.d (.int .i64 k),.d (.int .i64 n),.d (.str t),.fslice [],.fslice (l.map J.d)]
abbrev outLT(k n:Int)(t:Tx)(l:List J):AObj:= .cells [.d (.int .i64 k),.d (.int .i64 n),.d (.str t),.fslice [],.d (.slice (l.map J.d))]
theorem Qet{α β:Type}(f:α→β){l:List α}{i:Nat}{a:α}(h:l[i]? =some a):(l.take i).map f++ [f a]=(l.take (i+1)).map f:=by
 rw[List.take_add_one,h];simp
theorem QfN:∀(n:Nat) (lim:Nat) (H:Qaa) (j:J),OrdOK n j→wt j≤100000000000→Ev (QaH code pr) 27 lim [.d j.d] H (.d (Qaf j).d) H
 |0,_,_,_,h,_=>h.elim
 |n+1,lim,H,j,⟨hm,_,_,hy⟩,hwt=>by
  have hk:=QnK j
  have hl:=wt_l j
  have hyw:∀y∈j.l,wt y≤100000000000:=fun y hy=>by have:=Qga hy;omega
  refine Fn.ev ?_
  refine Qa2 (pn rfl) rfl (show code 27=some c27 from rfl) rfl ?_;simp only[List.length_cons,List.length_nil,List.cons_append,List.nil_append,simprocAttr]
  obtain⟨K,kk,k0,k1,k2,k3,k4⟩:=trey H (.cells (jC j))
  have hjd:=jd j
  have a1:(H++ [AObj.cells (jC j)]).length=H.length+1:=by simp
  have a2:∀o,(H++ [AObj.cells (jC j)]++ [o]).length=H.length+2:=fun o=>by simp
  have a3:∀o o',(H++ [AObj.cells (jC j)]++ [o]++ [o'])=K o o':=fun o o'=>by rw[kk];simp
  have a4:∀o,(H++ [AObj.cells (jC j)]++ [o])[H.length]? =some (.cells (jC j)):=fun o=>by simp
  have hll1:H.length≤H.length+1:=by omega
  have hll2:H.length≤H.length+2:=by omega
  rw[Qb8]
  (iterate 4 refine w_s (j_ hjd (j_ a1 (j_ a2 (j_ a3 (j_ a4 (j_ k0 (j_ k1 (j_ k2 (j_ k3 (j_ k4 hll2)))))))))) ?_)
  by_cases h5:j.k=5
  ·rw[if_pos h5]
   have c5:(j.k==5)=true:=by simpa using h5
   obtain⟨hkl,hnd⟩:=hm h5
   refine w_r (j_ k0 c5) ?_
   have hpl:=QkC (pr:=pr) H.length (K (Qgj 0 0 [] [] []) (Qgj j.k j.n j.t [] [])) j.ks (by omega) hnd
   obtain⟨P,hP⟩:∃P,Qar j.ks=P:=⟨_,rfl⟩
   have hPl:=QaV j.ks
   have hPm:∀i∈P,i<j.ks.length:=fun i hi=>Qbu (hP▸hi)
   rw[hP]at hpl hPl
   simp only[Qgj,List.map_nil]at hpl
   rw[hP]
   refine w_1 hpl (j_ k0 (@List.length_map.{0,0})) ?_
   refine w_r trivial ?_
   refine QgT (fun k st=>∃i:Nat,i≤P.length∧k=P.length-i∧∃x:Nat→AV,st=⟨[x 0,x 1,x 2,x 3,.ptr (H.length+1) 0,.ptr H.length 0,.ptr (H.length+2) 0,.d (.slice (P.map fun(i:Nat)=>D.int .i64 (i:Int))),intD P.length,intD i,x 10,x 11,x 12,x 13,x 14,x 15,x 16,x 17],K (Qgj 0 0 [] [] []) (Qgj j.k j.n j.t ((P.take i).map fun i=>j.ks.getD i []) ((P.take i).map fun i=>(j.l.map Qaf).getD i J.zero))⟩) ?_ _ _ ⟨0,Nat.zero_le _,rfl,Qao _ _ _ rfl⟩
   rintro k _ ⟨i,hi,rfl,x,rfl⟩
   by_cases t0:i<P.length
   ·have f1:((i:Int)<(P.length:Int))=True:=eq_true (by omega)
    have w1:IntKind.i64.wrap ((i:Int)+1)=((i+1:Nat):Int):=Qdf (by omega)
    obtain⟨p,hp⟩:∃p,P[i]? =some p:=⟨_,List.getElem?_eq_getElem t0⟩
    have hpk:=hPm p (List.mem_of_getElem? hp)
    obtain⟨s,hs⟩:∃s,j.ks[p]? =some s:=⟨_,List.getElem?_eq_getElem hpk⟩
    obtain⟨y,hy'⟩:∃y,j.l[p]? =some y:=⟨_,List.getElem?_eq_getElem (by omega)⟩
    have hyd:=jd y
    have hod:=jd (Qaf y)
    have e1:=Qet (fun i=>j.ks.getD i []) hp
    have e2:=Qet (fun i=>(j.l.map Qaf).getD i J.zero) hp
    have g1:j.ks.getD p []=s:=by simp[List.getD,hs]
    have g2:(j.l.map Qaf).getD p J.zero=Qaf y:=by simp[List.getD,hy']
    rw[g1]at e1
    rw[g2]at e2
    have ho:=fun M=>QfN n H.length M y (hy y (List.mem_of_getElem? hy')) (hyw y (List.mem_of_getElem? hy'))
    simp only[hyd,hod]at ho
    have n1:((P.take i).map fun i=>j.ks.getD i []).length=i:=by simp;omega
    have n2:((P.take i).map fun i=>(j.l.map Qaf).getD i J.zero).length=i:=by simp;omega
    generalize((P.take i).map fun i=>j.ks.getD i [])=A at*
    generalize((P.take i).map fun i=>(j.l.map Qaf).getD i J.zero)=B at*
    have m1:A.map D.str++ [D.str s]=(A++ [s]).map D.str:=by simp
    have m2:B.map J.d++ [D.agg [.int .i64 (Qaf y).k,.int .i64 (Qaf y).n,.str (Qaf y).t,sD (Qaf y).ks,jsD (Qaf y).l]]=(B++ [Qaf y]).map J.d:=by simp[hod]
    have z1:=headS A
    have z2:=Qop B
    have b1:(i+1)*17≤70368744177664:=by omega
    have b2:(i+1)*85≤70368744177664:=by omega
    have hc:∀s:Tx,(D.str s).cells= [D.str s]:=fun _=>rfl
    (iterate 10 refine w_s (j_ f1 hp) ?_)
    (apply W_rg;focus(intro k;simp(maxSteps:=100000000) only[zz,zd,simprocAttr,k0,k2,k4,hs,hc,z1,n1,b1,m1,e1,List.length_map,hll2];(first|done|with_reducible exact rfl)))<;>(try simp only[zp,simprocAttr])
    obtain⟨A',hA⟩:∃A',((P.take (i+1)).map fun i=>j.ks.getD i [])=A':=⟨_,rfl⟩
    rw[hA]
    refine w_2 ((ho (K (Qgj 0 0 [] [] []) (Qgj j.k j.n j.t A' B)))) ((ho (K (Qgj 0 0 [] [] []) (outT j.k j.n j.t A' B)))) (j_ k0 (j_ k2 (j_ k4 (j_ hy' (j_ hyd (j_ z2 (j_ n2 (j_ b2 (j_ m2 (j_ e2 (j_ (@List.length_map.{0,0}) hll2))))))))))) ?_
    refine w_r w1 ?_
    exact⟨P.length-(i+1),by omega,i+1,t0,rfl,Qdu (by first|rw[hA,e2]|rw[hA]) rfl⟩
   ·obtain rfl:i=P.length:=by omega
    have f1:((P.length:Int)<(P.length:Int))=False:=eq_false (by omega)
    rw[List.take_length]
    refine w_r (j_ f1 (j_ k1 (j_ k2 (j_ k3 hll1)))) ?_
    refine Qad (vs:= [.d (.agg [.int .i64 j.k,.int .i64 j.n,.str j.t,sD (P.map fun i=>j.ks.getD i []),jsD (P.map fun i=>(j.l.map Qaf).getD i J.zero)])]) ?_ rfl ⟨by rw[jd];rfl,rfl⟩
    simp only[Qcc,zz,simprocAttr,k1]
  ·rw[if_neg h5]
   have c5:(j.k==5)=false:=by simpa using h5
   refine w_r (j_ k0 (j_ c5 (@List.length_map.{0,0}))) ?_
   refine QgT (fun k st=>∃(i:Nat) (M:List AObj),i≤j.l.length∧k=j.l.length-i∧∃x:Nat→AV,st=⟨[x 0,x 1,x 2,x 3,.ptr (H.length+1) 0,.ptr H.length 0,.ptr (H.length+2) 0,x 7,x 8,x 9,x 10,.d (jsD j.l),intD j.l.length,intD i,x 14,x 15,x 16,x 17],K (Qgj 0 0 [] [] []) (outL j.k j.n j.t ((j.l.take i).map Qaf))++M⟩) ?_ _ _ ⟨0,[],Nat.zero_le _,rfl,Qdu (by rw[List.append_nil];rfl) rfl⟩
   rintro k _ ⟨i,M,hi,rfl,x,rfl⟩
   by_cases t0:i<j.l.length
   ·have f1:((i:Int)<(j.l.length:Int))=True:=eq_true (by omega)
    have w1:IntKind.i64.wrap ((i:Int)+1)=((i+1:Nat):Int):=Qdf (by omega)
    obtain⟨y,hy'⟩:∃y,j.l[i]? =some y:=⟨_,List.getElem?_eq_getElem t0⟩
    have hyd:=jd y
    have hod:=jd (Qaf y)
    have e2:=Qet Qaf hy'
    have ho:=fun M=>QfN n H.length M y (hy y (List.mem_of_getElem? hy')) (hyw y (List.mem_of_getElem? hy'))
    simp only[hyd,hod]at ho
    have n2:((j.l.take i).map Qaf).length=i:=by simp;omega
    generalize(j.l.take i).map Qaf=B at*
    obtain⟨G,gg,gl,g0,g2,g3,g4⟩:=QoY kk (Qgj 0 0 [] [] []) M
    have hll3:H.length≤H.length+3+M.length:=by omega
    have z2:=Qop B
    have b2:(i+1)*85≤70368744177664:=by omega
    have m2:B.map J.d++ [D.agg [.int .i64 (Qaf y).k,.int .i64 (Qaf y).n,.str (Qaf y).t,sD (Qaf y).ks,jsD (Qaf y).l]]=(B++ [Qaf y]).map J.d:=by simp[hod]
    (iterate 9 refine w_s (j_ f1 (j_ hy' (j_ hyd (j_ gg (j_ gl (j_ g0 (j_ g4 hll3))))))) ?_)
    refine w_2 ((ho (G (outL j.k j.n j.t B) (.cells (jC y))))) ((ho (G (outLT j.k j.n j.t B) (.cells (jC y))))) (j_ g0 (j_ g2 (j_ g3 (j_ z2 (j_ n2 (j_ b2 (j_ m2 (j_ (@List.length_map.{0,0}) hll2)))))))) ?_
    refine w_r w1 ?_
    exact⟨j.l.length-(i+1),by omega,i+1,M++ [.cells (jC y)],t0,rfl,Qdu (by rw[←List.append_assoc,gg,←e2]) rfl⟩
   ·obtain rfl:i=j.l.length:=by omega
    have f1:((j.l.length:Int)<(j.l.length:Int))=False:=eq_false (by omega)
    rw[List.take_length]
    obtain⟨G,h1,h2,h3⟩:∃G:AObj→Qaa,(∀a,K a (outL j.k j.n j.t (j.l.map Qaf))++M=G a)∧(∀a,(G a)[H.length+2]? =some (outL j.k j.n j.t (j.l.map Qaf)))∧(∀a a',(G a).set (H.length+1) a'=G a')∧(∀a,(G a)[H.length+1]? =some a):=by
     refine⟨fun a=>K a (outL j.k j.n j.t (j.l.map Qaf))++M,fun _=>rfl,fun a=> ?_,fun a a'=> ?_,fun a=> ?_⟩
     ·simp only[kk,List.append_assoc];rw[List.getElem?_append_right (by omega)];simp
     ·simp only[kk,List.append_assoc];rw[List.set_append_right _ _ (by omega)];simp
     ·simp only[kk,List.append_assoc];rw[List.getElem?_append_right (by omega)];simp
    rw[h1]
    obtain⟨h3,h4⟩:=h3
    refine w_r (j_ f1 (j_ h2 (j_ h3 (j_ h4 hll1)))) ?_
    refine Qad (vs:= [.d (.agg [.int .i64 j.k,.int .i64 j.n,.str j.t,sD [],jsD (j.l.map Qaf)])]) ?_ rfl ⟨by rw[jd];rfl,rfl⟩
    simp only[Qcc,zz,simprocAttr,h4];rfl
end Go.Proofs.YtmhmjlfajlpabaaDoor
namespace Go.Proofs.YtmhmjlfajlpabaaDoor
open Go Go.Abs Go.Lib
theorem QoM(k:IntKind)(a b:Nat):Qba .and k (a:Int) (b:Int)=some (.int k (k.wrap (((a % 2^k.bits)&&&(b % 2^k.bits):Nat):Int))):=by
 have:Qba .and k (a:Int) (b:Int)=some (.int k (k.wrap ((BitVec.ofInt k.bits (a:Int)&&&BitVec.ofInt k.bits (b:Int)).toNat:Nat))):=rfl
 rw[this,Qdp,Qdp,BitVec.toNat_and,BitVec.toNat_ofNat,BitVec.toNat_ofNat]
theorem b_or(k:IntKind)(a b:Nat):Qba .or k (a:Int) (b:Int)=some (.int k (k.wrap (((a % 2^k.bits)|||(b % 2^k.bits):Nat):Int))):=by
 have:Qba .or k (a:Int) (b:Int)=some (.int k (k.wrap ((BitVec.ofInt k.bits (a:Int)|||BitVec.ofInt k.bits (b:Int)).toNat:Nat))):=rfl
 rw[this,Qdp,Qdp,BitVec.toNat_or,BitVec.toNat_ofNat,BitVec.toNat_ofNat]
theorem and31(b:Nat)(hb:b<256):Qba .and .i64 (b:Int) 31=some (.int .i64 ((b % 32:Nat):Int)):=by
 have:=QoM .i64 b 31
 rw[show IntKind.i64.bits=64 from rfl,Nat.mod_eq_of_lt (a:=b) (show b<2^64 by omega),Nat.mod_eq_of_lt (a:=31) (show 31<2^64 by omega),Nat.and_two_pow_sub_one_eq_mod b 5,w64n _ (by omega)]at this
 exact this
theorem and15(b:Nat)(hb:b<256):Qba .and .i64 (b:Int) 15=some (.int .i64 ((b % 16:Nat):Int)):=by
 have:=QoM .i64 b 15
 rw[show IntKind.i64.bits=64 from rfl,Nat.mod_eq_of_lt (a:=b) (show b<2^64 by omega),Nat.mod_eq_of_lt (a:=15) (show 15<2^64 by omega),Nat.and_two_pow_sub_one_eq_mod b 4,w64n _ (by omega)]at this
 exact this
theorem and7(b:Nat)(hb:b<256):Qba .and .i64 (b:Int) 7=some (.int .i64 ((b % 8:Nat):Int)):=by
 have:=QoM .i64 b 7
 rw[show IntKind.i64.bits=64 from rfl,Nat.mod_eq_of_lt (a:=b) (show b<2^64 by omega),Nat.mod_eq_of_lt (a:=7) (show 7<2^64 by omega),Nat.and_two_pow_sub_one_eq_mod b 3,w64n _ (by omega)]at this
 exact this
theorem and63u(b:Nat)(hb:b<256):Qba .and .u8 (b:Int) 63=some (.int .u8 ((b % 64:Nat):Int)):=by
 have:=QoM .u8 b 63
 rw[show IntKind.u8.bits=8 from rfl,Nat.mod_eq_of_lt (a:=b) (show b<2^8 by omega),Nat.mod_eq_of_lt (a:=63) (show 63<2^8 by omega),Nat.and_two_pow_sub_one_eq_mod b 6,u8w _ (by omega)]at this
 exact this
set_option maxRecDepth 100000 in
theorem land192:∀b:Fin 256,b.val&&&192=b.val/64*64:=by decide
theorem and192u(b:Nat)(hb:b<256):Qba .and .u8 (b:Int) 192=some (.int .u8 ((b/64*64:Nat):Int)):=by
 have:=QoM .u8 b 192
 rw[show IntKind.u8.bits=8 from rfl,Nat.mod_eq_of_lt (a:=b) (show b<2^8 by omega),Nat.mod_eq_of_lt (a:=192) (show 192<2^8 by omega),land192 ⟨b,hb⟩,u8w _ (by dsimp only;omega)]at this
 exact this
theorem shl6(c:Nat)(hc:c<1099511627776):QbQ .shl .i64 (c:Int) 6=some (.int .i64 ((c*64:Nat):Int)):=by
 have h:QbQ .shl .i64 (c:Int) 6=some (.int .i64 (IntKind.i64.wrap ((c:Int)*2^6))):=rfl
 have:(c:Int)*2^6=((c*64:Nat):Int):=by omega
 rw[h,this,w64n _ (by omega)]
theorem or6(c x:Nat)(hc:c<1099511627776)(hx:x<64):Qba .or .i64 ((c*64:Nat):Int) (x:Int)=some (.int .i64 ((c*64+x:Nat):Int)):=by
 have:=b_or .i64 (c*64) x
 have e:=Nat.shiftLeft_add_eq_or_of_lt (i:=6) (b:=x) (by omega) c
 rw[Nat.shiftLeft_eq]at e
 rw[show IntKind.i64.bits=64 from rfl,Nat.mod_eq_of_lt (a:=c*64) (show c*64<2^64 by omega),Nat.mod_eq_of_lt (a:=x) (show x<2^64 by omega),←e,w64n _ (by omega)]at this
 exact this
theorem Qk8{f:FuncId}{lim:Nat}{a:List AV}{H:Qaa}{Q:AV→Qaa→Prop}(h:Go.Abs.Fn (QaH code Qaq) f lim a H Q):∃v H',Ev (QaH code Qaq) f lim a H v H'∧Q v H':=by
 unfold Go.Abs.Fn at h;exact h
theorem Qka{α:Type}{l:List α}{i:Nat}{x:α}(h:l[i]? =some x)(f:α→Bool):(l.take (i+1)).all f=((l.take i).all f&&f x):=by
 rw[List.take_add_one,h,List.all_append];simp
theorem any_cut{α:Type}{l:List α}{i:Nat}{x:α}(h:l[i]? =some x)(f:α→Bool):(l.take (i+1)).any f=((l.take i).any f||f x):=by
 rw[List.take_add_one,h,List.any_append];simp
theorem QnH{α:Type}{l:List α}{i:Nat}{x:α}(h:l[i]? =some x){f:α→Bool}(hf:f x=false):l.all f=false:=by
 rw[List.all_eq_false];exact⟨x,List.mem_of_getElem? h,by simp[hf]⟩
theorem any_yes{α:Type}{l:List α}{i:Nat}{x:α}(h:l[i]? =some x){f:α→Bool}(hf:f x=true):l.any f=true:=by
 rw[List.any_eq_true];exact⟨x,List.mem_of_getElem? h,hf⟩
def midK(P:St→Prop)(Q:AExit→St→Prop):AExit→St→Prop
 |.normal,s=>P s
 |.exit i,s=>Q (.exit i) s
 |.ret,s=>Q .ret s
theorem W_midR{a b:CCode}{st:St}{Q:AExit→St→Prop}{lim:Nat}(P:St→Prop)(h1:W (QaH code Qaq) lim a st (midK P Q))(h2:∀s,P s→W (QaH code Qaq) lim b s Q):W (QaH code Qaq) lim (.seq a b) st Q:=
 Qlz (h1.mono fun e s h=>by
  cases e with
  |normal=>simp only[seqK];exact h2 s h
  |exit i=>simp only[seqK];exact h
  |ret=>simp only[seqK];exact h)
def Qp9(c:Nat):Bool:=decide (c≤1114111)&&(decide (c<55296)||decide (57343<c))
theorem QhD(c:Nat):Qp9 c=true↔c≤1114111∧(c<55296∨57343<c):=by simp[Qp9]
set_option maxRecDepth 100000 in
theorem QpV(lim:Nat)(H:Qaa)(c:Nat):Ev (QaH code Qaq) 49 lim [intD c] H (boolD (Qp9 c)) H:=by
 refine Fn.ev ?_
 refine Qa2 (pn rfl) rfl (show code 49=some c49 from rfl) rfl ?_;simp only[List.length_cons,List.length_nil,List.cons_append,List.nil_append,simprocAttr]
 have f0:((c:Int)≥0)=True:=eq_true (by omega)
 obtain⟨r,hr⟩:∃r,Qp9 c=r:=⟨_,rfl⟩
 rw[hr]
 have yes:c≤1114111→(c<55296∨57343<c)→r=true:=fun a b=>hr▸(QhD c).2 ⟨a,b⟩
 have no:¬(c≤1114111∧(c<55296∨57343<c))→r=false:=fun a=>hr▸(Bool.not_eq_true _▸mt (QhD c).1 a)
 generalize e1:(1114111:Int)=u1
 generalize e2:(55296:Int)=u2
 generalize e3:(57343:Int)=u3
 by_cases h1:c≤1114111
 ·have f1:((c:Int)≤u1)=True:=eq_true (by omega)
  by_cases h2:c<55296
  ·have f2:((c:Int)<u2)=True:=eq_true (by omega)
   rw[yes h1 (.inl h2)]
   clear yes no
   refine w_r (j_ f0 (j_ f1 f2)) ?_
   exact Qad rfl rfl ⟨rfl,rfl⟩
  ·have f2:((c:Int)<u2)=False:=eq_false (by omega)
   by_cases h3:57343<c
   ·have f3:((c:Int)>u3)=True:=eq_true (by omega)
    rw[yes h1 (.inr h3)]
    refine w_r (j_ f0 (j_ f1 (j_ f2 f3))) ?_
    exact Qad rfl rfl ⟨rfl,rfl⟩
   ·have f3:((c:Int)>u3)=False:=eq_false (by omega)
    rw[no (by omega)]
    refine w_r (j_ f0 (j_ f1 (j_ f2 f3))) ?_
    exact Qad rfl rfl ⟨rfl,rfl⟩
 ·have f1:((c:Int)≤u1)=False:=eq_false (by omega)
  rw[no (by omega)]
  refine w_r (j_ f0 f1) ?_
  exact Qad rfl rfl ⟨rfl,rfl⟩
def acc(s:List UInt8)(a c0:Nat):Nat→Nat
 |0=>c0
 |j+1=>acc s a c0 j*64+by' s (a+(j+1))% 64
theorem acc_lt(s:List UInt8)(a c0:Nat)(h:c0<64):∀j,acc s a c0 j<64^(j+1)
 |0=>by simpa[acc]using h
 |j+1=>by
  have:=acc_lt s a c0 h j
  have e:64^(j+1+1)=64^(j+1)*64:=Nat.pow_succ ..
  unfold acc;omega
def Cls(b m least c0:Nat):Prop:=(m=1∧least=128∧b/32=6∧c0=b % 32)∨(m=2∧least=2048∧b/16=14∧c0=b % 16)∨(m=3∧least=65536∧b/8=30∧c0=b % 8)
theorem Cls.yes{s:List UInt8}{a m least c0:Nat}(h:Cls (by' s a) m least c0)(ha:a<s.length)(hc:∀j,1≤j→j≤m→a+j<s.length∧by' s (a+j)/64=2)
  (h1:¬acc s a c0 m<least)(h2:acc s a c0 m≤1114111∧(acc s a c0 m<55296∨57343<acc s a c0 m)):(dc (s.drop a)).2=m+1:=by
 have hd:dc (s.drop a)=decodeN (s.length-a) (by' s a) (by' s (a+1)) (by' s (a+2)) (by' s (a+3)):=by unfold dc;simp only[Qif,List.length_drop,Nat.add_zero]
 rw[hd]
 rcases h with⟨rfl,rfl,h3,rfl⟩|⟨rfl,rfl,h3,rfl⟩|⟨rfl,rfl,h3,rfl⟩
 ·have c1:=hc 1 (by omega) (by omega)
  simp only[acc]at h1 h2
  unfold decodeN
  rw[if_neg (by omega),if_pos ⟨h3,by omega,c1.2⟩,if_pos (by simpa using h1)]
 ·have c1:=hc 1 (by omega) (by omega)
  have c2:=hc 2 (by omega) (by omega)
  simp only[acc,Nat.reduceAdd]at h1 h2
  unfold decodeN
  rw[if_neg (by omega),if_neg (by omega),if_pos ⟨h3,⟨by omega,c1.2⟩,⟨by omega,c2.2⟩⟩,if_pos (by omega)]
 ·have c1:=hc 1 (by omega) (by omega)
  have c2:=hc 2 (by omega) (by omega)
  have c3:=hc 3 (by omega) (by omega)
  simp only[acc,Nat.reduceAdd]at h1 h2
  unfold decodeN
  rw[if_neg (by omega),if_neg (by omega),if_neg (by omega),if_pos ⟨h3,⟨by omega,c1.2⟩,⟨by omega,c2.2⟩,⟨by omega,c3.2⟩⟩,if_pos (by omega)]
theorem Cls.no{s:List UInt8}{a m least c0:Nat}(h:Cls (by' s a) m least c0)
  (hn:(∃j,1≤j∧j≤m∧(¬a+j<s.length∨by' s (a+j)/64≠2))∨acc s a c0 m<least∨¬(acc s a c0 m≤1114111∧(acc s a c0 m<55296∨57343<acc s a c0 m))):dc (s.drop a)=(65533,1):=by
 have hd:dc (s.drop a)=decodeN (s.length-a) (by' s a) (by' s (a+1)) (by' s (a+2)) (by' s (a+3)):=by unfold dc;simp only[Qif,List.length_drop,Nat.add_zero]
 rw[hd]
 have bad:∀j,(¬a+j<s.length∨by' s (a+j)/64≠2)→¬(j<s.length-a∧by' s (a+j)/64=2):=fun j h k=>by omega
 rcases h with⟨rfl,rfl,h3,rfl⟩|⟨rfl,rfl,h3,rfl⟩|⟨rfl,rfl,h3,rfl⟩
 ·unfold decodeN
  rw[if_neg (by omega)]
  by_cases k:1<s.length-a∧by' s (a+1)/64=2
  ·rw[if_pos ⟨h3,k⟩]
   rcases hn with⟨j,h4,h5,h6⟩|hn
   ·obtain rfl:j=1:=by omega
    exact absurd k (bad _ h6)
   ·simp only[acc]at hn
    split
    ·exfalso;omega
    ·rfl
  ·rw[if_neg (fun h=>k h.2),if_neg (by omega),if_neg (by omega)]
 ·unfold decodeN
  rw[if_neg (by omega),if_neg (by omega)]
  by_cases k:(1<s.length-a∧by' s (a+1)/64=2)∧(2<s.length-a∧by' s (a+2)/64=2)
  ·rw[if_pos ⟨h3,k⟩]
   rcases hn with⟨j,h4,h5,h6⟩|hn
   ·obtain rfl|rfl:j=1∨j=2:=by omega
    ·exact absurd k.1 (bad _ h6)
    ·exact absurd k.2 (bad _ h6)
   ·simp only[acc,Nat.reduceAdd]at hn
    split
    ·exfalso;omega
    ·rfl
  ·rw[if_neg (fun h=>k h.2),if_neg (by omega)]
 ·unfold decodeN
  rw[if_neg (by omega),if_neg (by omega),if_neg (by omega)]
  by_cases k:(1<s.length-a∧by' s (a+1)/64=2)∧(2<s.length-a∧by' s (a+2)/64=2)∧(3<s.length-a∧by' s (a+3)/64=2)
  ·rw[if_pos ⟨h3,k⟩]
   rcases hn with⟨j,h4,h5,h6⟩|hn
   ·obtain rfl|rfl|rfl:j=1∨j=2∨j=3:=by omega
    ·exact absurd k.1 (bad _ h6)
    ·exact absurd k.2.1 (bad _ h6)
    ·exact absurd k.2.2 (bad _ h6)
   ·simp only[acc,Nat.reduceAdd]at hn
    split
    ·exfalso;omega
    ·rfl
  ·rw[if_neg (fun h=>k h.2)]
theorem Cls.ascii{s:List UInt8}{a:Nat}(h:by' s a<128):dc (s.drop a)=(by' s a,1):=by
 have hd:dc (s.drop a)=decodeN (s.length-a) (by' s a) (by' s (a+1)) (by' s (a+2)) (by' s (a+3)):=by unfold dc;simp only[Qif,List.length_drop,Nat.add_zero]
 rw[hd];unfold decodeN;rw[if_pos h]
theorem Cls.none{s:List UInt8}{a:Nat}(h:(128≤by' s a∧by' s a<192)∨248≤by' s a):dc (s.drop a)=(65533,1):=by
 have hd:dc (s.drop a)=decodeN (s.length-a) (by' s a) (by' s (a+1)) (by' s (a+2)) (by' s (a+3)):=by unfold dc;simp only[Qif,List.length_drop,Nat.add_zero]
 rw[hd];unfold decodeN;rw[if_neg (by omega),if_neg (by omega),if_neg (by omega),if_neg (by omega)]
theorem Cls.two{s:List UInt8}{a m least c0 b:Nat}(h:Cls b m least c0)(hy:(dc (s.drop a)).2=m+1)(e:dc (s.drop a)=(65533,1)):False:=by
 rw[e]at hy
 have h1:1≤m:=by rcases h with h|h|h<;>omega
 have h2:1=m+1:=hy
 omega
def RuneQ(s:List UInt8)(a:Nat)(H:Qaa)(v:AV)(H':Qaa):Prop:=(∃(r:Int) (n:Nat),v= .tuple [.d (.int .i64 r),intD n]∧max 1 n=(dc (s.drop a)).2∧n≤4∧decide (n=0)=decide (dc (s.drop a)=(65533,1)))∧H'=H
theorem QfH{s:List UInt8}{a:Nat}(h:dc (s.drop a)=(65533,1)):max 1 0=(dc (s.drop a)).2∧(0:Nat)≤4∧decide ((0:Nat)=0)=decide (dc (s.drop a)=(65533,1)):=by
 rw[h];exact⟨rfl,by omega,by simp⟩
theorem QmX{s:List UInt8}{a n:Nat}(h1:1≤n)(h4:n≤4)(h:(dc (s.drop a)).2=n)(hn:dc (s.drop a)≠(65533,1)):max 1 n=(dc (s.drop a)).2∧n≤4∧decide (n=0)=decide (dc (s.drop a)=(65533,1)):=
 ⟨by omega,h4,by rw[decide_eq_false hn,decide_eq_false (by omega)]⟩
theorem toInt64(b:Nat)(h:b<256):IntKind.i64.wrap (b:Int)=b:=w64n _ (by omega)
set_option maxHeartbeats 4000000 in
theorem rune_ev(lim:Nat)(H:Qaa)(s:List UInt8)(a:Nat)(ha:a<s.length)(hs:s.length≤100000000000):Go.Abs.Fn (QaH code Qaq) 32 lim [.d (.str s),intD a] H (RuneQ s a H):=by
 refine Qa2 (pn rfl) rfl (show code 32=some c32 from rfl) rfl ?_;simp only[List.length_cons,List.length_nil,List.cons_append,List.nil_append,simprocAttr]
 obtain⟨b,hb⟩:∃b,s[a]? =some b:=⟨_,List.getElem?_eq_getElem ha⟩
 have hby:=QqI hb
 have hlt:=by_lt s a
 rw[hby]at hlt
 have hal:(a:Int)<s.length:=by omega
 have g1:=toInt64 b.toNat hlt
 by_cases k0:b.toNat<128
 ·have f0:((b.toNat:Int)<128)=True:=eq_true (by omega)
  refine w_r (j_ hb (j_ @byteD.eq_1 (j_ g1 f0))) ?_
  exact Qad rfl rfl ⟨⟨_,1,rfl,QmX (by omega) (by omega) (by rw[Cls.ascii (by omega)]) (by rw[Cls.ascii (by omega)];intro e;have:=congrArg Prod.fst e;simp only at this;omega)⟩,rfl⟩
 have f0:((b.toNat:Int)<128)=False:=eq_false (by omega)
 (iterate 11 refine w_s (j_ hb (j_ @byteD.eq_1 (j_ g1 f0))) ?_)
 refine W_midR (fun st=>∃m least c0:Nat,Cls (by' s a) m least c0∧∃x:Nat→AV,st=⟨[.d (.str s),intD a,x 2,x 3,x 4,x 5,x 6,x 7,x 8,intD 0,intD 0,intD c0,intD m,intD least,x 14,x 15,x 16,x 17,x 18],H⟩) ?_ ?_
 ·have n1:=and31 _ hlt
  have n2:=and15 _ hlt
  have n3:=and7 _ hlt
  by_cases k1:192≤b.toNat
  ·have f1:((b.toNat:Int)≥192)=True:=eq_true (by omega)
   by_cases k2:b.toNat<224
   ·have f2:((b.toNat:Int)<224)=True:=eq_true (by omega)
    refine w_r (j_ f1 (j_ f2 n1)) ?_
    exact⟨1,128,b.toNat % 32,.inl ⟨rfl,rfl,by omega,by rw[hby]⟩,Qao _ _ _ rfl⟩
   have f2:((b.toNat:Int)<224)=False:=eq_false (by omega)
   have f3:((b.toNat:Int)≥224)=True:=eq_true (by omega)
   by_cases k3:b.toNat<240
   ·have f4:((b.toNat:Int)<240)=True:=eq_true (by omega)
    refine w_r (j_ f1 (j_ f2 (j_ f3 (j_ f4 n2)))) ?_
    exact⟨2,2048,b.toNat % 16,.inr (.inl ⟨rfl,rfl,by omega,by rw[hby]⟩),Qao _ _ _ rfl⟩
   have f4:((b.toNat:Int)<240)=False:=eq_false (by omega)
   have f5:((b.toNat:Int)≥240)=True:=eq_true (by omega)
   by_cases k4:b.toNat<248
   ·have f6:((b.toNat:Int)<248)=True:=eq_true (by omega)
    refine w_r (j_ f1 (j_ f2 (j_ f3 (j_ f4 (j_ f5 (j_ f6 n3)))))) ?_
    exact⟨3,65536,b.toNat % 8,.inr (.inr ⟨rfl,rfl,by omega,by rw[hby]⟩),Qao _ _ _ rfl⟩
   ·have f6:((b.toNat:Int)<248)=False:=eq_false (by omega)
    refine w_r (j_ f1 (j_ f2 (j_ f3 (j_ f4 (j_ f5 (j_ f6 n3)))))) ?_
    exact Qad rfl rfl ⟨⟨_,0,rfl,QfH (Cls.none (by omega))⟩,rfl⟩
  ·have f1:((b.toNat:Int)≥192)=False:=eq_false (by omega)
   have f3:((b.toNat:Int)≥224)=False:=eq_false (by omega)
   have f5:((b.toNat:Int)≥240)=False:=eq_false (by omega)
   refine w_r (j_ f1 (j_ f3 f5)) ?_
   exact Qad rfl rfl ⟨⟨_,0,rfl,QfH (Cls.none (by omega))⟩,rfl⟩
 ·rintro _ ⟨m,least,c0,hcls,x,rfl⟩
  have hm:m≤3:=by rcases hcls with h|h|h<;>omega
  have hc0:c0<64:=by rcases hcls with h|h|h<;>omega
  have hacc:∀j,j≤3→acc s a c0 j<16777216:=fun j hj=>by
   have h1:=acc_lt s a c0 hc0 j
   have h2:64^(j+1)≤64^4:=Nat.pow_le_pow_right (by decide) (by omega)
   omega
  refine w_r trivial ?_
  refine QgT (fun k st=>∃i:Nat,i≤m∧k=m-i∧(∀j,1≤j→j≤i→a+j<s.length∧by' s (a+j)/64=2)∧∃x:Nat→AV,st=⟨[.d (.str s),intD a,x 2,x 3,x 4,x 5,x 6,x 7,x 8,intD 0,intD 0,intD (acc s a c0 i),intD m,intD least,intD (i+1:Nat),x 15,x 16,x 17,x 18],H⟩) ?_ _ _ ⟨0,Nat.zero_le _,rfl,fun j h1 h2=>by omega,Qao _ _ _ rfl⟩
  rintro k _ ⟨i,hi,rfl,hall,x,rfl⟩
  by_cases q0:i+1≤m
  ·have f0:(((i+1:Nat):Int)≤(m:Int))=True:=eq_true (by omega)
   have w1:IntKind.i64.wrap ((a:Int)+((i+1:Nat):Int))=((a+(i+1):Nat):Int):=by rw[w64 (by omega) (by omega)];omega
   by_cases q1:a+(i+1)<s.length
   ·have f1:(((a+(i+1):Nat):Int)≥(s.length:Int))=False:=eq_false (by omega)
    obtain⟨d,hd⟩:∃d,s[a+(i+1)]? =some d:=⟨_,List.getElem?_eq_getElem q1⟩
    have hdl:=d.toNat_lt
    have hdb:=QqI hd
    have n4:=and192u d.toNat hdl
    have n5:=and63u d.toNat hdl
    by_cases q2:d.toNat/64=2
    ·have f2:(((d.toNat/64*64:Nat):Int) !=128)=false:=by rw[q2];rfl
     have n6:=shl6 (acc s a c0 i) (by have:=hacc i (by omega);omega)
     have n7:IntKind.i64.wrap ((d.toNat % 64:Nat):Int)=((d.toNat % 64:Nat):Int):=w64n _ (by omega)
     have n8:=or6 (acc s a c0 i) (d.toNat % 64) (by have:=hacc i (by omega);omega) (by omega)
     have w2:IntKind.i64.wrap (((i+1:Nat):Int)+1)=((i+1+1:Nat):Int):=by rw[w64 (by omega) (by omega)];omega
     refine w_r (j_ f0 (j_ f1 (j_ f2 (j_ w1 (j_ w2 (j_ hd (j_ @byteD.eq_1 (j_ n4 (j_ n5 (j_ n6 (j_ n7 n8))))))))))) ?_
     refine⟨m-(i+1),by omega,i+1,q0,rfl, ?_, ?_⟩
     ·intro j h1 h2
      by_cases h3:j≤i
      ·exact hall j h1 h3
      ·obtain rfl:j=i+1:=by omega
       exact⟨q1,by rw[hdb];exact q2⟩
     ·have e:acc s a c0 (i+1)=acc s a c0 i*64+d.toNat % 64:=by rw[←hdb];rfl
      rw[e]
      exact Qao _ _ _ rfl
    ·have f2:(((d.toNat/64*64:Nat):Int) !=128)=true:=by
      have:((d.toNat/64*64:Nat):Int)≠128:=by omega
      simpa using this
     refine w_r (j_ f0 (j_ f1 (j_ f2 (j_ w1 (j_ hd (j_ @byteD.eq_1 n4)))))) ?_
     exact Qad rfl rfl ⟨⟨_,0,rfl,QfH (Cls.no hcls (.inl ⟨i+1,by omega,q0,.inr (by rw[hdb];exact q2)⟩))⟩,rfl⟩
   ·have f1:(((a+(i+1):Nat):Int)≥(s.length:Int))=True:=eq_true (by omega)
    refine w_r (j_ f0 (j_ f1 w1)) ?_
    exact Qad rfl rfl ⟨⟨_,0,rfl,QfH (Cls.no hcls (.inl ⟨i+1,by omega,q0,.inl q1⟩))⟩,rfl⟩
  ·obtain rfl:i=m:=by omega
   have f0:(((i+1:Nat):Int)≤(i:Int))=False:=eq_false (by omega)
   by_cases q1:acc s a c0 i<least
   ·have f1:((acc s a c0 i:Int)<(least:Int))=True:=eq_true (by omega)
    refine w_r (j_ f0 f1) ?_
    exact Qad rfl rfl ⟨⟨_,0,rfl,QfH (Cls.no hcls (.inr (.inl q1)))⟩,rfl⟩
   ·have f1:((acc s a c0 i:Int)<(least:Int))=False:=eq_false (by omega)
    have w1:IntKind.i64.wrap ((i:Int)+1)=((i+1:Nat):Int):=Qdf (by omega)
    have hl:=QhD (acc s a c0 i)
    have he:=QpV H.length H (acc s a c0 i)
    generalize Qp9 (acc s a c0 i)=r at hl he
    (iterate 6 refine w_s f0 ?_)
    cases r with
    |true=>
     refine w_1 he f1 ?_
     refine w_r w1 ?_
     exact Qad rfl rfl ⟨⟨_,i+1,rfl,have hy:=Cls.yes hcls ha (fun j h1 h2=>hall j h1 h2) q1 (hl.1 rfl);QmX (by omega) (by omega) hy (fun e=>Cls.two hcls hy e)⟩,rfl⟩
    |false=>
     refine w_1 he f1 ?_
     refine w_r trivial ?_
     exact Qad rfl rfl ⟨⟨_,0,rfl,QfH (Cls.no hcls (.inr (.inr fun h=>by cases hl.2 h)))⟩,rfl⟩
theorem Qjk(l:List UInt8):decodeL l=dc l:=by
 have:=Qh2 l 0
 rw[List.drop_zero]at this
 exact this
theorem Qiz:∀(n m:Nat) (s:List UInt8),s.length≤n→s.length≤m→validGoD n s=validGoD m s
 |0,0,_,_,_=>rfl
 |0,m+1,s,h,_=>by
  have:s= []:=List.length_eq_zero_iff.1 (by omega)
  subst this;simp[validGoD]
 |n+1,0,s,_,h=>by
  have:s= []:=List.length_eq_zero_iff.1 (by omega)
  subst this;simp[validGoD]
 |n+1,m+1,s,h1,h2=>by
  unfold validGoD
  have:=Qfp s
  rw[Qjk,Qiz n m (s.drop (dc s).2) (by simp;omega) (by simp;omega)]
theorem QnO{s:List UInt8}(h:s≠ []):vB s=if dc s=(65533,1)then false else vB (s.drop (dc s).2):=by
 show validGoD s.length s=if dc s=(65533,1)then false else validGoD (s.drop (dc s).2).length (s.drop (dc s).2)
 have h1:=List.length_pos_iff.2 h
 have h2:=Qfp s
 obtain⟨n,hn⟩:∃n,s.length=n+1:=⟨s.length-1,by omega⟩
 rw[hn]
 show(if s= []then true else if(decodeL s).1=65533∧(decodeL s).2=1 then false else validGoD n (s.drop (decodeL s).2))=_
 rw[if_neg h,Qjk]
 by_cases hd:dc s=(65533,1)
 ·rw[if_pos hd,if_pos (by rw[hd];exact⟨rfl,rfl⟩)]
 ·rw[if_neg hd,if_neg (fun k=>hd (Prod.ext k.1 k.2))]
  exact Qiz _ _ _ (by simp;omega) (Nat.le_refl _)
def BadQ(s:List UInt8)(H:Qaa)(v:AV)(H':Qaa):Prop:=(∃r:Int,v=intD r∧decide (r<0)=vB s)∧H'=H
theorem QqQ(lim:Nat)(H:Qaa)(s:List UInt8)(hs:s.length≤100000000000):Go.Abs.Fn (QaH code Qaq) 18 lim [.d (.str s)] H (BadQ s H):=by
 refine Qa2 (pn rfl) rfl (show code 18=some c18 from rfl) rfl ?_;simp only[List.length_cons,List.length_nil,List.cons_append,List.nil_append,simprocAttr]
 refine w_r trivial ?_
 refine QgT (fun k st=>∃a:Nat,a≤s.length∧k=s.length-a∧vB s=vB (s.drop a)∧∃x:Nat→AV,st=⟨[.d (.str s),x 1,x 2,intD 0,intD a,x 5,x 6,x 7],H⟩) ?_ _ _ ⟨0,Nat.zero_le _,rfl,rfl,Qao _ _ _ rfl⟩
 rintro k _ ⟨a,ha,rfl,hv,x,rfl⟩
 by_cases q0:a<s.length
 ·have f0:((a:Int)<(s.length:Int))=True:=eq_true (by omega)
  obtain⟨_,_,he,⟨r,n,rfl,hn,hn4,hn0⟩,rfl⟩:=Qk8 (rune_ev H.length H s a q0 hs)
  have hne:s.drop a≠ []:=fun e=>by have:=congrArg List.length e;simp at this;omega
  have hle:=dc_le hne
  have hpos:=Qfp (s.drop a)
  rw[QnO hne]at hv
  rw[List.length_drop]at hle
  by_cases h0:n=0
  ·subst h0
   have hd:dc (s.drop a)=(65533,1):=by simpa using hn0.symm
   rw[if_pos hd]at hv
   have f1:(((0:Nat):Int)==0)=true:=rfl
   refine w_r f0 ?_
   refine Qcb ?_;refine Qdd ?_;simp only[zz,simprocAttr];refine Ev.fn he ?_
   (apply Qek;(focus(intro _;simp only[zz,simprocAttr];(first|done|with_reducible exact rfl))))<;>(try simp only[zp,simprocAttr])
   refine w_r f1 ?_
   exact Qad rfl rfl ⟨⟨_,rfl,by rw[hv];exact decide_eq_false (by omega)⟩,rfl⟩
  ·have hd:dc (s.drop a)≠(65533,1):=by
    rw[decide_eq_false h0]at hn0
    exact of_decide_eq_false hn0.symm
   rw[if_neg hd,List.drop_drop]at hv
   have hm:(dc (s.drop a)).2=n:=by omega
   rw[hm]at hv hle
   have f1:((n:Int)==0)=false:=by simp;omega
   have w1:IntKind.i64.wrap ((a:Int)+(n:Int))=((a+n:Nat):Int):=by rw[w64 (by omega) (by omega)];omega
   refine w_r f0 ?_
   refine Qcb ?_;refine Qdd ?_;simp only[zz,simprocAttr];refine Ev.fn he ?_
   (apply Qek;(focus(intro _;simp only[zz,simprocAttr];(first|done|with_reducible exact rfl))))<;>(try simp only[zp,simprocAttr])
   refine w_r (j_ f1 w1) ?_
   exact⟨s.length-(a+n),by omega,a+n,by omega,rfl,hv,Qao _ _ _ rfl⟩
 ·obtain rfl:a=s.length:=by omega
  have f0:((s.length:Int)<(s.length:Int))=False:=eq_false (by omega)
  rw[List.drop_length]at hv
  refine w_r f0 ?_
  exact Qad rfl rfl ⟨⟨_,rfl,by rw[hv];rfl⟩,rfl⟩
theorem QiY{ks:List Tx}{i:Nat}{s:Tx}(h:ks[i]? =some s)(hn:(ks.take i).Nodup)(hs:s∉ks.take i):(ks.take (i+1)).Nodup:=by
 rw[List.take_add_one,h]
 refine List.nodup_append.2 ⟨hn,by simp,fun a ha b hb e=> ?_⟩
 have:b=s:=by simpa using hb
 subst this
 subst e
 exact hs ha
theorem Qne{ks:List Tx}{i j:Nat}{s:Tx}(h:ks[i]? =some s)(h2:ks[j]? =some s)(hj:j<i):Qbr ks=false:=by
 unfold Qbr
 have:¬ks.Nodup:=fun hn=>by
  have h3:ks[j]? =ks[i]? :=by rw[h,h2]
  obtain⟨hi,hi2⟩:=List.getElem?_eq_some_iff.1 h
  have:=(List.getElem?_inj (by omega) hn).1 h3
  omega
 rw[decide_eq_false this,Bool.and_false]
theorem Ql7{ks:List Tx}{i:Nat}{s:Tx}(h:∀j,j<i→ks[j]? ≠some s):s∉ks.take i:=fun hm=>by
 obtain⟨j,hj,he⟩:=List.getElem_of_mem hm
 have hj':j<i:=by simp at hj;omega
 refine h j hj' ?_
 rw[List.getElem_take]at he
 rw[←he]
 exact List.getElem?_eq_getElem _
theorem keysR_ev(lim:Nat)(H:Qaa)(ks:List Tx)(hk:ks.length≤100000000000)(hs:∀s∈ks,s.length≤100000000000):Ev (QaH code Qaq) 66 lim [.d (sD ks)] H (boolD (Qbr ks)) H:=by
 refine Fn.ev ?_
 refine Qa2 (pn rfl) rfl (show code 66=some c66 from rfl) rfl ?_;simp only[List.length_cons,List.length_nil,List.cons_append,List.nil_append,simprocAttr]
 refine w_r trivial ?_
 refine QgT (fun k st=>∃i:Nat,i≤ks.length∧k=ks.length-i∧(ks.take i).all vB=true∧(ks.take i).Nodup∧∃x:Nat→AV,st=⟨[.d (sD ks),x 1,x 2,x 3,x 4,boolD false,intD i,x 7,x 8,x 9],H⟩) ?_ _ _ ⟨0,Nat.zero_le _,rfl,rfl,List.nodup_nil,Qao _ _ _ rfl⟩
 rintro k _ ⟨i,hi,rfl,ha,hnd,x,rfl⟩
 by_cases t0:i<ks.length
 ·have f1:((i:Int)<(ks.length:Int))=True:=eq_true (by omega)
  have w1:IntKind.i64.wrap ((i:Int)+1)=((i+1:Nat):Int):=Qdf (by omega)
  obtain⟨s,hsx⟩:∃s,ks[i]? =some s:=⟨_,List.getElem?_eq_getElem t0⟩
  have hc:∀s:Tx,(D.str s).cells= [D.str s]:=fun _=>rfl
  have hst:=Qka hsx vB
  rw[ha,Bool.true_and]at hst
  obtain⟨_,H',he,⟨r,rfl,hr⟩,e'⟩:=Qk8 (QqQ H.length H s (hs s (List.mem_of_getElem? hsx)))
  rw[e']at he
  by_cases h0:r<0
  ·have f2:(r≥0)=False:=eq_false (by omega)
   rw[decide_eq_true h0]at hr
   rw[←hr]at hst
   refine w_r (j_ f1 (@List.length_map.{0,0})) ?_
   refine Qcb ?_;apply QdM 2;(focus(intro _;simp only[zz,simprocAttr,hsx,hc];(first|done|with_reducible exact rfl)));simp only[List.drop_succ_cons,List.drop_zero];refine Qdd ?_;simp only[zz,simprocAttr];refine Ev.fn he ?_
   (apply Qek;(focus(intro _;simp only[zz,simprocAttr,b_geq,f2];(first|done|with_reducible exact rfl))))<;>(try simp only[zp,simprocAttr])
   refine w_r trivial ?_
   refine QgT (fun k st=>∃j:Nat,j≤i∧k=i-j∧(∀q,q<j→ks[q]? ≠some s)∧∃x:Nat→AV,st=⟨[.d (sD ks),x 1,x 2,x 3,x 4,boolD false,intD i,intD j,x 8,x 9],H⟩) ?_ _ _ ⟨0,Nat.zero_le _,rfl,fun q hq=>by omega,Qao _ _ _ rfl⟩
   rintro k _ ⟨j,hj,rfl,hno,x,rfl⟩
   by_cases t1:j<i
   ·have f3:((j:Int)<(i:Int))=True:=eq_true (by omega)
    have w2:IntKind.i64.wrap ((j:Int)+1)=((j+1:Nat):Int):=Qdf (by omega)
    obtain⟨t,htx⟩:∃t,ks[j]? =some t:=⟨_,List.getElem?_eq_getElem (by omega)⟩
    by_cases h1:s=t
    ·subst h1
     rw[Qne hsx htx t1]
     have f4:(s==s)=true:=by simp
     refine w_r (j_ f3 (j_ hsx (j_ htx (j_ hc (j_ f4 (@List.length_map.{0,0})))))) ?_
     exact Qad rfl rfl ⟨rfl,rfl⟩
    ·have f4:(s==t)=false:=by simpa using h1
     refine w_r (j_ f3 (j_ hsx (j_ htx (j_ hc (j_ f4 (j_ w2 (@List.length_map.{0,0}))))))) ?_
     refine⟨i-(j+1),by omega,j+1,t1,rfl,fun q hq=> ?_,Qao _ _ _ rfl⟩
     by_cases hqj:q<j
     ·exact hno q hqj
     ·obtain rfl:q=j:=by omega
      rw[htx];exact fun e=>h1 (Option.some.inj e).symm
   ·obtain rfl:j=i:=by omega
    have f3:((j:Int)<(j:Int))=False:=eq_false (by omega)
    refine w_r (j_ f3 w1) ?_
    exact⟨ks.length-(j+1),by omega,j+1,t0,rfl,hst,QiY hsx hnd (Ql7 hno),Qao _ _ _ rfl⟩
  ·have f2:(r≥0)=True:=eq_true (by omega)
   rw[decide_eq_false h0]at hr
   have:Qbr ks=false:=by unfold Qbr;rw[QnH hsx hr.symm];rfl
   rw[this]
   refine w_r (j_ f1 (@List.length_map.{0,0})) ?_
   refine Qcb ?_;apply QdM 2;(focus(intro _;simp only[zz,simprocAttr,hsx,hc];(first|done|with_reducible exact rfl)));simp only[List.drop_succ_cons,List.drop_zero];refine Qdd ?_;simp only[zz,simprocAttr];refine Ev.fn he ?_
   (apply Qek;(focus(intro _;simp only[zz,simprocAttr,b_geq,f2];(first|done|with_reducible exact rfl))))<;>(try simp only[zp,simprocAttr])
   refine w_r trivial ?_
   exact Qad rfl rfl ⟨rfl,rfl⟩
 ·obtain rfl:i=ks.length:=by omega
  have f1:((ks.length:Int)<(ks.length:Int))=False:=eq_false (by omega)
  rw[List.take_length]at ha hnd
  have:Qbr ks=true:=by unfold Qbr;rw[ha,decide_eq_true hnd];rfl
  rw[this]
  refine w_r (j_ f1 (@List.length_map.{0,0})) ?_
  exact Qad rfl rfl ⟨rfl,rfl⟩
def Sh(j:J):Prop:=j.t.length≤100000000000∧j.ks.length≤100000000000∧j.l.length≤100000000000∧∀s∈j.ks,s.length≤100000000000
theorem eq0(n m:Int):(n==m)=decide (n=m):=rfl
theorem eqT(s t:Tx):(s==t)=decide (s=t):=by
 rw[Bool.eq_iff_iff];simp
theorem sh_of{j:J}(h:wt j≤100000000000):Sh j:=⟨by have:=wt_t j;omega,by have:=QnK j;omega,by have:=wt_l j;omega,fun s hs=>by have:=wt_key hs;omega⟩
set_option maxHeartbeats 1000000 in
theorem Qpg(lim:Nat)(H:Qaa)(j:J)(hj:Sh j):Ev (QaH code Qaq) 48 lim [.d j.d] H (boolD (Qan j)) H:=by
 refine Fn.ev ?_
 refine Qa2 (pn rfl) rfl (show code 48=some c48 from rfl) rfl ?_;simp only[List.length_cons,List.length_nil,List.cons_append,List.nil_append,simprocAttr]
 obtain⟨s1,s2,s3,s4⟩:=hj
 obtain⟨K,hK⟩:∃K,H++ [AObj.cells (jC j)]=K:=⟨_,rfl⟩
 have gK:K[H.length]? =some (.cells (jC j)):=by rw[←hK];exact Qa3 _ _
 have hjd:=jd j
 have w0:IntKind.i64.wrap ((j.ks.length:Int)+(j.l.length:Int))=((j.ks.length+j.l.length:Nat):Int):=by rw[w64 (by omega) (by omega)];omega
 have eE:(((j.ks.length+j.l.length:Nat):Int)==0)=Qbj j:=by rw[eq0];exact decide_eq_decide.2 (by omega)
 have eN:=eq0 j.n 0
 have eN1:=eq0 j.n 1
 have eT:=eqT j.t []
 have hr:Qan j=if j.k=0 then Qbj j&&decide (j.n=0)&&decide (j.t= [])
  else if j.k=1 then Qbj j&&decide (j.t= [])&&(decide (j.n=0)||decide (j.n=1))
  else if j.k=2 then Qbj j&&decide (j.t= [])&&decide (-9007199254740991≤j.n)&&decide (j.n≤9007199254740991)
  else if j.k=3 then Qbj j&&decide (j.n=0)&&vB j.t
  else if j.k=4 then decide (j.ks.length=0)&&decide (j.n=0)&&decide (j.t= [])
  else if j.k=5 then decide (j.ks.length=j.l.length)&&decide (j.n=0)&&decide (j.t= [])&&Qbr j.ks
  else false:=rfl
 rw[hr]
 (iterate 2 refine w_s (j_ hjd hK) ?_)
 (iterate 4 refine w_s (j_ gK (j_ w0 (j_ eE (@List.length_map.{0,0})))) ?_)
 have k0e:=eq0 j.k 0
 have k1e:=eq0 j.k 1
 have k2e:=eq0 j.k 2
 have k3e:=eq0 j.k 3
 have k4e:=eq0 j.k 4
 have k5e:=eq0 j.k 5
 by_cases k0:j.k=0
 ·rw[if_pos k0]
  rw[decide_eq_true k0]at k0e
  generalize Qbj j=b1 at*
  generalize decide (j.n=0)=b2 at*
  generalize decide (j.t= [])=b3 at*
  cases b1<;>cases b2<;>cases b3<;>(refine w_r (j_ gK (j_ k0e (j_ eN eT))) ?_;exact Qad rfl rfl ⟨rfl,rfl⟩)
 rw[if_neg k0]
 rw[decide_eq_false k0]at k0e
 by_cases k1:j.k=1
 ·rw[if_pos k1]
  rw[decide_eq_true k1]at k1e
  generalize Qbj j=b1 at*
  generalize decide (j.n=0)=b2 at*
  generalize decide (j.n=1)=b4 at*
  generalize decide (j.t= [])=b3 at*
  cases b1<;>cases b2<;>cases b3<;>cases b4<;>(refine w_r (j_ gK (j_ k0e (j_ k1e (j_ eN (j_ eN1 eT))))) ?_;exact Qad rfl rfl ⟨rfl,rfl⟩)
 rw[if_neg k1]
 rw[decide_eq_false k1]at k1e
 by_cases k2:j.k=2
 ·rw[if_pos k2]
  rw[decide_eq_true k2]at k2e
  generalize Qbj j=b1 at*
  generalize decide (j.t= [])=b3 at*
  by_cases h2: -9007199254740991≤j.n
  ·have f2:(j.n≥-9007199254740991)=True:=eq_true h2
   rw[decide_eq_true h2]
   by_cases h4:j.n≤9007199254740991
   ·have f4:(j.n≤9007199254740991)=True:=eq_true h4
    rw[decide_eq_true h4]
    cases b1<;>cases b3<;>(refine w_r (j_ gK (j_ k0e (j_ k1e (j_ k2e (j_ f2 (j_ f4 eT)))))) ?_;exact Qad rfl rfl ⟨rfl,rfl⟩)
   ·have f4:(j.n≤9007199254740991)=False:=eq_false h4
    rw[decide_eq_false h4]
    cases b1<;>cases b3<;>(refine w_r (j_ gK (j_ k0e (j_ k1e (j_ k2e (j_ f2 (j_ f4 eT)))))) ?_;exact Qad rfl rfl ⟨rfl,rfl⟩)
  ·have f2:(j.n≥-9007199254740991)=False:=eq_false h2
   rw[decide_eq_false h2]
   generalize decide (j.n≤9007199254740991)=b4
   cases b1<;>cases b3<;>cases b4<;>(refine w_r (j_ gK (j_ k0e (j_ k1e (j_ k2e (j_ f2 eT))))) ?_;exact Qad rfl rfl ⟨rfl,rfl⟩)
 rw[if_neg k2]
 rw[decide_eq_false k2]at k2e
 by_cases k3:j.k=3
 ·rw[if_pos k3]
  rw[decide_eq_true k3]at k3e
  obtain⟨_,K',he,⟨r,rfl,hrv⟩,e'⟩:=Qk8 (QqQ H.length K j.t s1)
  rw[e']at he
  generalize Qbj j=b1 at*
  generalize decide (j.n=0)=b2 at*
  generalize vB j.t=b3 at*
  (iterate 15 refine w_s (j_ gK (j_ k0e (j_ k1e (j_ k2e k3e)))) ?_)
  cases b1<;>cases b2<;>cases b3<;>(refine w_1 he (j_ gK (j_ eN hrv)) ?_;refine w_r trivial ?_;exact Qad rfl rfl ⟨rfl,rfl⟩)
 rw[if_neg k3]
 rw[decide_eq_false k3]at k3e
 by_cases k4:j.k=4
 ·rw[if_pos k4]
  rw[decide_eq_true k4]at k4e
  have eE4:((j.ks.length:Int)==0)=decide (j.ks.length=0):=by rw[eq0];exact decide_eq_decide.2 (by omega)
  generalize decide (j.ks.length=0)=b1 at*
  generalize decide (j.n=0)=b2 at*
  generalize decide (j.t= [])=b3 at*
  cases b1<;>cases b2<;>cases b3<;>(refine w_r (j_ gK (j_ k0e (j_ k1e (j_ k2e (j_ k3e (j_ k4e (j_ eN (j_ eT (j_ eE4 (@List.length_map.{0,0})))))))))) ?_;exact Qad rfl rfl ⟨rfl,rfl⟩)
 rw[if_neg k4]
 rw[decide_eq_false k4]at k4e
 by_cases k5:j.k=5
 ·rw[if_pos k5]
  rw[decide_eq_true k5]at k5e
  have he:=keysR_ev H.length K j.ks s2 s4
  have eE5:((j.ks.length:Int)==(j.l.length:Int))=decide (j.ks.length=j.l.length):=by rw[eq0];exact decide_eq_decide.2 (by omega)
  generalize decide (j.ks.length=j.l.length)=b1 at*
  generalize decide (j.n=0)=b2 at*
  generalize decide (j.t= [])=b3 at*
  generalize Qbr j.ks=b4 at*
  (iterate 21 refine w_s (j_ gK (j_ k0e (j_ k1e (j_ k2e (j_ k3e (j_ k4e k5e)))))) ?_)
  cases b1<;>cases b2<;>cases b3<;>cases b4<;>(refine w_1 he (j_ gK (j_ eN (j_ eT (j_ eE5 (@List.length_map.{0,0}))))) ?_;refine w_r trivial ?_;exact Qad rfl rfl ⟨rfl,rfl⟩)
 rw[if_neg k5]
 rw[decide_eq_false k5]at k5e
 refine w_r (j_ gK (j_ k0e (j_ k1e (j_ k2e (j_ k3e (j_ k4e k5e)))))) ?_
 exact Qad rfl rfl ⟨rfl,rfl⟩
theorem Qnq:∀(n:Nat) (lim:Nat) (H:Qaa) (j:J),n≤1000→wt j≤100000000000→Ev (QaH code Qaq) 29 lim [.d j.d,intD n] H (boolD (goodB n j)) H
 |0,lim,H,j,_,_=>by
  refine Fn.ev ?_
  refine Qa2 (pn rfl) rfl (show code 29=some c29 from rfl) rfl ?_;simp only[List.length_cons,List.length_nil,List.cons_append,List.nil_append,simprocAttr]
  have hjd:=jd j
  have f0:(((0:Nat):Int)<1)=True:=eq_true (by omega)
  refine w_r (j_ hjd f0) ?_
  exact Qad rfl rfl ⟨rfl,rfl⟩
 |n+1,lim,H,j,hn,hj=>by
  refine Fn.ev ?_
  refine Qa2 (pn rfl) rfl (show code 29=some c29 from rfl) rfl ?_;simp only[List.length_cons,List.length_nil,List.cons_append,List.nil_append,simprocAttr]
  have hjd:=jd j
  obtain⟨K,hK⟩:∃K,H++ [AObj.cells (jC j)]=K:=⟨_,rfl⟩
  have gK:K[H.length]? =some (.cells (jC j)):=by rw[←hK];exact Qa3 _ _
  have f0:(((n+1:Nat):Int)<1)=False:=eq_false (by omega)
  have he:=Qpg H.length K j (sh_of hj)
  simp only[hjd]at he
  have hr:goodB (n+1) j=(Qan j&&j.l.all (goodB n)):=rfl
  have hl3:=(sh_of hj).2.2.1
  (iterate 2 refine w_s (j_ hjd hK) ?_)
  cases hs:Qan j with
  |false=>
   rw[hs]at he hr
   rw[hr,Bool.false_and]
   (iterate 1 refine w_s trivial ?_)
   refine w_1 he (j_ gK f0) ?_
   refine w_r trivial ?_
   exact Qad rfl rfl ⟨rfl,rfl⟩
  |true=>
   rw[hs]at he hr
   rw[hr,Bool.true_and]
   (iterate 1 refine w_s trivial ?_)
   refine w_1 he (j_ gK f0) ?_
   refine w_r trivial ?_
   refine QgT (fun k st=>∃i:Nat,i≤j.l.length∧k=j.l.length-i∧(j.l.take i).all (goodB n)=true∧∃x:Nat→AV,st=⟨[x 0,intD (n+1:Nat),x 2,x 3,x 4,boolD false,.ptr H.length 0,intD i,x 8,x 9],K⟩) ?_ _ _ ⟨0,Nat.zero_le _,rfl,rfl,Qao _ _ _ rfl⟩
   rintro k _ ⟨i,hi,rfl,ha,x,rfl⟩
   by_cases t0:i<j.l.length
   ·have f1:((i:Int)<(j.l.length:Int))=True:=eq_true (by omega)
    have w1:IntKind.i64.wrap ((i:Int)+1)=((i+1:Nat):Int):=Qdf (by omega)
    have w2:IntKind.i64.wrap (((n+1:Nat):Int)-1)=(n:Int):=by rw[w64 (by omega) (by omega)];omega
    obtain⟨y,hy⟩:∃y,j.l[i]? =some y:=⟨_,List.getElem?_eq_getElem t0⟩
    have hyd:=jd y
    have hst:=Qka hy (goodB n)
    rw[ha,Bool.true_and]at hst
    have hd':wt y≤100000000000:=by have:=Qga (List.mem_of_getElem? hy);omega
    have hg:=Qnq n H.length K y (by omega) hd'
    simp only[hyd]at hg
    cases hv:goodB n y with
    |true=>
     rw[hv]at hg hst
     refine w_r (j_ gK (j_ f1 (@List.length_map.{0,0}))) ?_
     refine Qcb ?_;apply QdM 5;(focus(intro _;simp only[zz,simprocAttr,gK,hy,hyd,QqS,w2];(first|done|with_reducible exact rfl)));simp only[List.drop_succ_cons,List.drop_zero];refine Qdd ?_;simp only[zz,simprocAttr];refine Ev.fn hg ?_
     (apply Qek;(focus(intro _;simp only[zz,simprocAttr];(first|done|with_reducible exact rfl))))<;>(try simp only[zp,simprocAttr])
     refine w_r w1 ?_
     exact⟨j.l.length-(i+1),by omega,i+1,t0,rfl,hst,Qao _ _ _ rfl⟩
    |false=>
     rw[hv]at hg
     rw[QnH hy hv]
     refine w_r (j_ gK (j_ f1 (@List.length_map.{0,0}))) ?_
     refine Qcb ?_;apply QdM 5;(focus(intro _;simp only[zz,simprocAttr,gK,hy,hyd,QqS,w2];(first|done|with_reducible exact rfl)));simp only[List.drop_succ_cons,List.drop_zero];refine Qdd ?_;simp only[zz,simprocAttr];refine Ev.fn hg ?_
     (apply Qek;(focus(intro _;simp only[zz,simprocAttr];(first|done|with_reducible exact rfl))))<;>(try simp only[zp,simprocAttr])
     refine w_r trivial ?_
     exact Qad rfl rfl ⟨rfl,rfl⟩
   ·obtain rfl:i=j.l.length:=by omega
    have f1:((j.l.length:Int)<(j.l.length:Int))=False:=eq_false (by omega)
    rw[List.take_length]at ha
    rw[ha]
    refine w_r (j_ gK (j_ f1 (@List.length_map.{0,0}))) ?_
    exact Qad rfl rfl ⟨rfl,rfl⟩
theorem QnI(lim:Nat)(H:Qaa)(j:J)(hj:wt j≤100000000000):Ev (QaH code Qaq) 13 lim [.d j.d] H (boolD (goodB 12 j)) H:=by
 refine Fn.ev ?_
 refine Qa2 (pn rfl) rfl (show code 13=some c13 from rfl) rfl ?_;simp only[List.length_cons,List.length_nil,List.cons_append,List.nil_append,simprocAttr]
 have hjd:=jd j
 obtain⟨K,hK⟩:∃K,H++ [AObj.cells (jC j)]=K:=⟨_,rfl⟩
 have gK:K[H.length]? =some (.cells (jC j)):=by rw[←hK];exact Qa3 _ _
 have he:Ev (QaH code Qaq) 29 H.length [.d j.d,intD 12] K (boolD (goodB 12 j)) K:=Qnq 12 H.length K j (by omega) hj
 simp only[hjd]at he
 (iterate 2 refine w_s (j_ hjd hK) ?_)
 (iterate 1 refine w_s trivial ?_)
 refine w_1 he gK ?_
 refine w_r trivial ?_
 exact Qad rfl rfl ⟨rfl,rfl⟩
end Go.Proofs.YtmhmjlfajlpabaaDoor
namespace Go.Proofs.YtmhmjlfajlpabaaDoor
open Go Go.Abs
def QqN(j:J)(n:Int):Bool:=decide (n<1)||decide (2000<j.t.length)||decide (200<j.ks.length)||decide (2000<j.l.length)
def Qbm:Nat→J→Int→Int
 |0,_,_=> -1
 |d+1,j,n=>if QqN j n=true then-1 else if(j.ks.all fun s=>decide (s.length≤2000))=false then-1 else j.l.foldl (fun n k=>if n<0 then n else Qbm d k n) (n-1)
theorem QgO{f:J→Int→Int}:∀(l:List J) (n:Int),n<0→l.foldl (fun n k=>if n<0 then n else f k n) n=n
 | [],_,_=>rfl
 |a::l,n,h=>by rw[List.foldl_cons,if_pos h];exact QgO l n h
theorem Qp0(d:Nat)(l:List J)(i:Nat)(x:J)(h:l[i]? =some x)(n:Int):
  (l.take (i+1)).foldl (fun n k=>if n<0 then n else Qbm d k n) n=(if(l.take i).foldl (fun n k=>if n<0 then n else Qbm d k n) n<0 then(l.take i).foldl (fun n k=>if n<0 then n else Qbm d k n) n else Qbm d x ((l.take i).foldl (fun n k=>if n<0 then n else Qbm d k n) n)):=by
 rw[List.take_add_one,h,List.foldl_append];rfl
theorem fold_cut(d:Nat)(l:List J)(i:Nat)(n:Int)(h:(l.take i).foldl (fun n k=>if n<0 then n else Qbm d k n) n<0):l.foldl (fun n k=>if n<0 then n else Qbm d k n) n=(l.take i).foldl (fun n k=>if n<0 then n else Qbm d k n) n:=by
 conv=>lhs;rw[←List.take_append_drop i l]
 rw[List.foldl_append,QgO _ _ h]
theorem QfV:∀(d:Nat) (j:J) (n:Int),n≤2000→-1≤n→-1≤Qbm d j n∧Qbm d j n≤2000
 |0,_,_,_,_=>by unfold Qbm;omega
 |d+1,j,n,h1,h2=>by
  unfold Qbm
  split
  ·omega
  split
  ·omega
  ·rename_i hb _
   have hn:1≤n:=by
    simp only[QqN,Bool.or_eq_true,decide_eq_true_eq,not_or]at hb;omega
   have:∀(l:List J) (n:Int),n≤2000→-1≤n→-1≤l.foldl (fun n k=>if n<0 then n else Qbm d k n) n∧l.foldl (fun n k=>if n<0 then n else Qbm d k n) n≤2000:=by
    intro l
    induction l with
    |nil=>intro n a b;exact⟨b,a⟩
    |cons x l ih=>
     intro n a b
     rw[List.foldl_cons]
     split
     ·exact ih _ a b
     ·exact ih _ (QfV d x n a b).2 (QfV d x n a b).1
   exact this _ _ (by omega) (by omega)
theorem Qp6:∀ks:List Tx,(ks.all fun s=>decide (s.length≤2000))=true→(ks.map fun k=>k.length+1).sum≤2001*ks.length
 | [],_=>Nat.zero_le _
 |k::ks,h=>by
  simp only[List.all_cons,Bool.and_eq_true,decide_eq_true_eq]at h
  have:=Qp6 ks h.2
  simp only[List.map_cons,List.sum_cons,List.length_cons]
  omega
theorem QpZ:∀(d:Nat) (j:J) (n:Int),0≤Qbm d j n→(wt j:Int)+500000*Qbm d j n≤500000*n
 |0,_,_,h=>by unfold Qbm at h;omega
 |d+1,j,n,h=>by
  have hu:Qbm (d+1) j n=if QqN j n=true then-1 else if(j.ks.all fun s=>decide (s.length≤2000))=false then-1 else j.l.foldl (fun n k=>if n<0 then n else Qbm d k n) (n-1):=by
   conv=>lhs;unfold Qbm
  rw[hu]at h⊢
  split at h
  ·omega
  split at h
  ·omega
  ·rename_i hb hk
   rw[if_neg hb,if_neg hk]
   simp only[QqN,Bool.or_eq_true,decide_eq_true_eq,not_or,Int.not_lt,Nat.not_lt]at hb
   have hk2:=Qp6 j.ks (by simpa using hk)
   have key:∀(l:List J) (n:Int),0≤l.foldl (fun n k=>if n<0 then n else Qbm d k n) n→(wts l:Int)+500000*l.foldl (fun n k=>if n<0 then n else Qbm d k n) n≤500000*n:=by
    intro l
    induction l with
    |nil=>intro n a;simp[wts]
    |cons x l ih=>
     intro n a
     rw[List.foldl_cons]at a⊢
     by_cases hn:n<0
     ·rw[if_pos hn,QgO l n hn]at a;omega
     ·rw[if_neg hn]at a⊢
      have h2:=ih _ a
      have hx:0≤Qbm d x n:=by
       by_cases hx:Qbm d x n<0
       ·rw[QgO l _ hx]at a;omega
       ·omega
      have h1:=QpZ d x n hx
      rw[Qcj]
      omega
   have:=key j.l (n-1) h
   rw[QdQ]
   omega
theorem few_wt{j:J}(h:0≤Qbm 30 j 2000):wt j≤1000000000:=by
 have:=QpZ 30 j 2000 h
 omega
end Go.Proofs.YtmhmjlfajlpabaaDoor
namespace Go.Proofs.YtmhmjlfajlpabaaDoor
open Go Go.Abs Go.Lib
theorem Qp1:∀(d:Nat) (lim:Nat) (H:Qaa) (j:J) (n:Int),d≤1000→-1≤n→n≤2000→Ev (QaH code Qaq) 31 lim [.d j.d,.d (.int .i64 n),intD d] H (.d (.int .i64 (Qbm d j n))) H
 |0,lim,H,j,n,_,_,_=>by
  refine Fn.ev ?_
  refine Qa2 (pn rfl) rfl (show code 31=some c31 from rfl) rfl ?_;simp only[List.length_cons,List.length_nil,List.cons_append,List.nil_append,simprocAttr]
  have hjd:=jd j
  have hr:Qbm 0 j n= -1:=by unfold Qbm;rfl
  have f0:(((0:Nat):Int)<1)=True:=eq_true (by omega)
  rw[hr]
  by_cases h1:n<1
  ·have f1:(n<1)=True:=eq_true h1
   refine w_r (j_ hjd (j_ f0 f1)) ?_
   exact Qad rfl rfl ⟨rfl,rfl⟩
  ·have f1:(n<1)=False:=eq_false h1
   refine w_r (j_ hjd (j_ f0 f1)) ?_
   exact Qad rfl rfl ⟨rfl,rfl⟩
 |d+1,lim,H,j,n,hd,hn1,hn2=>by
  refine Fn.ev ?_
  refine Qa2 (pn rfl) rfl (show code 31=some c31 from rfl) rfl ?_;simp only[List.length_cons,List.length_nil,List.cons_append,List.nil_append,simprocAttr]
  have hjd:=jd j
  obtain⟨K,hK⟩:∃K,H++ [AObj.cells (jC j)]=K:=⟨_,rfl⟩
  have gK:K[H.length]? =some (.cells (jC j)):=by rw[←hK];exact Qa3 _ _
  have f0:(((d+1:Nat):Int)<1)=False:=eq_false (by omega)
  have hr:Qbm (d+1) j n=if QqN j n=true then-1 else if(j.ks.all fun s=>decide (s.length≤2000))=false then-1 else j.l.foldl (fun n k=>if n<0 then n else Qbm d k n) (n-1):=by
   conv=>lhs;unfold Qbm
  rw[hr]
  (iterate 2 refine w_s (j_ hjd hK) ?_)
  by_cases h1:n<1
  ·have f1:(n<1)=True:=eq_true h1
   rw[if_pos (by simp[QqN,h1])]
   refine w_r (j_ gK (j_ f0 f1)) ?_
   exact Qad rfl rfl ⟨rfl,rfl⟩
  have f1:(n<1)=False:=eq_false h1
  by_cases h2:2000<j.t.length
  ·have f2:((j.t.length:Int)>2000)=True:=eq_true (by omega)
   rw[if_pos (by simp[QqN,h2])]
   refine w_r (j_ gK (j_ f0 (j_ f1 f2))) ?_
   exact Qad rfl rfl ⟨rfl,rfl⟩
  have f2:((j.t.length:Int)>2000)=False:=eq_false (by omega)
  by_cases h3:200<j.ks.length
  ·have f3:((j.ks.length:Int)>200)=True:=eq_true (by omega)
   rw[if_pos (by simp[QqN,h3])]
   refine w_r (j_ gK (j_ f0 (j_ f1 (j_ f2 (j_ f3 (@List.length_map.{0,0})))))) ?_
   exact Qad rfl rfl ⟨rfl,rfl⟩
  have f3:((j.ks.length:Int)>200)=False:=eq_false (by omega)
  by_cases h4:2000<j.l.length
  ·have f4:((j.l.length:Int)>2000)=True:=eq_true (by omega)
   rw[if_pos (by simp[QqN,h4])]
   refine w_r (j_ gK (j_ f0 (j_ f1 (j_ f2 (j_ f3 (j_ f4 (@List.length_map.{0,0}))))))) ?_
   exact Qad rfl rfl ⟨rfl,rfl⟩
  have f4:((j.l.length:Int)>2000)=False:=eq_false (by omega)
  have w0:IntKind.i64.wrap (n-1)=n-1:=w64 (by omega) (by omega)
  have hb:¬QqN j n=true:=by simp only[QqN,Bool.or_eq_true,decide_eq_true_eq];omega
  rw[if_neg hb]
  refine w_r (j_ gK (j_ f0 (j_ f1 (j_ f2 (j_ f3 (j_ f4 (j_ w0 (@List.length_map.{0,0})))))))) ?_
  refine QgT (fun k st=>∃i:Nat,i≤j.ks.length∧k=j.ks.length-i∧((j.ks.take i).all fun s=>decide (s.length≤2000))=true∧∃x:Nat→AV,st=⟨[x 0,.d (.int .i64 (n-1)),intD (d+1:Nat),x 3,x 4,x 5,x 6,intD 0,.ptr H.length 0,intD i,x 10,x 11,x 12,x 13],K⟩) ?_ _ _ ⟨0,Nat.zero_le _,rfl,rfl,Qao _ _ _ rfl⟩
  rintro k _ ⟨i,hi,rfl,ha,x,rfl⟩
  by_cases t0:i<j.ks.length
  ·have f5:((i:Int)<(j.ks.length:Int))=True:=eq_true (by omega)
   have w1:IntKind.i64.wrap ((i:Int)+1)=((i+1:Nat):Int):=Qdf (by omega)
   obtain⟨s,hs⟩:∃s,j.ks[i]? =some s:=⟨_,List.getElem?_eq_getElem t0⟩
   have hc:(D.str s).cells= [D.str s]:=rfl
   have hst:=Qka hs fun s=>decide (s.length≤2000)
   rw[ha,Bool.true_and]at hst
   by_cases h5:s.length≤2000
   ·have f6:((s.length:Int)>2000)=False:=eq_false (by omega)
    rw[decide_eq_true h5]at hst
    refine w_r (j_ gK (j_ f5 (j_ f6 (j_ hs (j_ hc (j_ w1 (@List.length_map.{0,0}))))))) ?_
    exact⟨j.ks.length-(i+1),by omega,i+1,t0,rfl,hst,Qao _ _ _ rfl⟩
   ·have f6:((s.length:Int)>2000)=True:=eq_true (by omega)
    rw[if_pos (QnH hs (by simpa using h5))]
    refine w_r (j_ gK (j_ f5 (j_ f6 (j_ hs (j_ hc (@List.length_map.{0,0})))))) ?_
    exact Qad rfl rfl ⟨rfl,rfl⟩
  ·obtain rfl:i=j.ks.length:=by omega
   have f5:((j.ks.length:Int)<(j.ks.length:Int))=False:=eq_false (by omega)
   rw[List.take_length]at ha
   rw[if_neg (by rw[ha];simp)]
   refine w_r (j_ gK (j_ f5 (@List.length_map.{0,0}))) ?_
   refine QgT (fun k st=>∃(i:Nat) (m:Int),i≤j.l.length∧k=j.l.length-i∧(j.l.take i).foldl (fun n k=>if n<0 then n else Qbm d k n) (n-1)=m∧-1≤m∧m≤2000∧∃x:Nat→AV,st=⟨[x 0,.d (.int .i64 m),intD (d+1:Nat),x 3,x 4,x 5,x 6,intD 0,.ptr H.length 0,x 9,intD i,x 11,x 12,x 13],K⟩) ?_ _ _ ⟨0,n-1,Nat.zero_le _,rfl,rfl,by omega,by omega,Qao _ _ _ rfl⟩
   rintro k _ ⟨i,m,hi,rfl,hm,m1,m2,x,rfl⟩
   by_cases t0:i<j.l.length
   ·have f5:((i:Int)<(j.l.length:Int))=True:=eq_true (by omega)
    have w1:IntKind.i64.wrap ((i:Int)+1)=((i+1:Nat):Int):=Qdf (by omega)
    by_cases h5:m<0
    ·have f6:(m≥0)=False:=eq_false (by omega)
     rw[fold_cut d j.l i (n-1) (by rw[hm];exact h5),hm]
     refine w_r (j_ gK (j_ f5 (j_ f6 (@List.length_map.{0,0})))) ?_
     exact Qad rfl rfl ⟨rfl,rfl⟩
    ·have f6:(m≥0)=True:=eq_true (by omega)
     obtain⟨y,hy⟩:∃y,j.l[i]? =some y:=⟨_,List.getElem?_eq_getElem t0⟩
     have hyd:=jd y
     have hst:=Qp0 d j.l i y hy (n-1)
     rw[hm,if_neg h5]at hst
     have w2:IntKind.i64.wrap (((d+1:Nat):Int)-1)=(d:Int):=by rw[w64 (by omega) (by omega)];omega
     have hg:=Qp1 d H.length K y m (by omega) m1 m2
     simp only[hyd]at hg
     obtain⟨r1,r2⟩:=QfV d y m m2 m1
     refine w_r (j_ gK (j_ f5 (j_ f6 (@List.length_map.{0,0})))) ?_
     refine Qcb ?_;apply QdM 6;(focus(intro _;simp only[zz,simprocAttr,gK,hy,hyd,QqS,w2];(first|done|with_reducible exact rfl)));simp only[List.drop_succ_cons,List.drop_zero];refine Qdd ?_;simp only[zz,simprocAttr];refine Ev.fn hg ?_
     (apply Qek;(focus(intro _;simp only[zz,simprocAttr];(first|done|with_reducible exact rfl))))<;>(try simp only[zp,simprocAttr])
     refine w_r w1 ?_
     exact⟨j.l.length-(i+1),by omega,i+1,_,t0,rfl,hst,r1,r2,Qao _ _ _ rfl⟩
   ·obtain rfl:i=j.l.length:=by omega
    have f5:((j.l.length:Int)<(j.l.length:Int))=False:=eq_false (by omega)
    rw[List.take_length]at hm
    rw[hm]
    refine w_r (j_ gK (j_ f5 (@List.length_map.{0,0}))) ?_
    exact Qad rfl rfl ⟨rfl,rfl⟩
theorem QmT(lim:Nat)(H:Qaa)(j:J):Ev (QaH code Qaq) 16 lim [.d j.d] H (boolD (decide (0≤Qbm 30 j 2000))) H:=by
 refine Fn.ev ?_
 refine Qa2 (pn rfl) rfl (show code 16=some c16 from rfl) rfl ?_;simp only[List.length_cons,List.length_nil,List.cons_append,List.nil_append,simprocAttr]
 have hjd:=jd j
 obtain⟨K,hK⟩:∃K,H++ [AObj.cells (jC j)]=K:=⟨_,rfl⟩
 have gK:K[H.length]? =some (.cells (jC j)):=by rw[←hK];exact Qa3 _ _
 have he:Ev (QaH code Qaq) 31 H.length [.d j.d,intD 2000,intD 30] K (.d (.int .i64 (Qbm 30 j 2000))) K:=Qp1 30 H.length K j 2000 (by omega) (by omega) (by omega)
 simp only[hjd]at he
 have hge:(Qbm 30 j 2000≥0)=(0≤Qbm 30 j 2000):=rfl
 generalize Qbm 30 j 2000=m at*
 (iterate 2 refine w_s (j_ hjd hK) ?_)
 (iterate 1 refine w_s trivial ?_)
 by_cases h:0≤m
 ·have f1:(m≥0)=True:=eq_true h
  rw[decide_eq_true h]
  refine w_1 he (j_ gK f1) ?_
  refine w_r trivial ?_
  exact Qad rfl rfl ⟨rfl,rfl⟩
 ·have f1:(m≥0)=False:=eq_false h
  rw[decide_eq_false h]
  refine w_1 he (j_ gK f1) ?_
  refine w_r trivial ?_
  exact Qad rfl rfl ⟨rfl,rfl⟩
end Go.Proofs.YtmhmjlfajlpabaaDoor
namespace Go.Proofs.YtmhmjlfajlpabaaDoor
open Go Go.Abs
def QgN(n:Nat):UInt8:=([48,49,50,51,52,53,54,55,56,57,97,98,99,100,101,102]:Tx).getD n 0
def Qb4(c:UInt8):Tx:=
 if c=34∨c=92 then [92,c]
 else if c=8 then [92,98]
 else if c=9 then [92,116]
 else if c=10 then [92,110]
 else if c=12 then [92,102]
 else if c=13 then [92,114]
 else if c.toNat<32 then [92,117,48,48,QgN (c.toNat/16),QgN (c.toNat % 16)]
 else [c]
def QaK(s:Tx):Tx:=34::(s.flatMap Qb4++ [34])
def commas:List Tx→Tx
 | []=> []
 | [a]=>a
 |a::b::l=>a++44::commas (b::l)
def QbU(k e:Tx):Tx:=QaK k++58::e
mutual
def QaT:J→Tx
 |.mk k n t ks l=>
  if k=1 then(if n=1 then [116,114,117,101]else [102,97,108,115,101])
  else if k=2 then Lib.itoa n
  else if k=3 then QaK t
  else if k=4 then 91::(commas (QoD l)++ [93])
  else if k=5 then 123::(commas (List.zipWith QbU ks (QoD l))++ [125])
  else [110,117,108,108]
def QoD:List J→List Tx
 | []=> []
 |a::l=>QaT a::QoD l
end
theorem Qlg:∀l:List J,QoD l=l.map QaT
 | []=>by unfold QoD;rfl
 |a::l=>by unfold QoD;rw[Qlg l];rfl
theorem Qcw(j:J):QaT j=if j.k=1 then(if j.n=1 then [116,114,117,101]else [102,97,108,115,101])
  else if j.k=2 then Lib.itoa j.n
  else if j.k=3 then QaK j.t
  else if j.k=4 then 91::(commas (j.l.map QaT)++ [93])
  else if j.k=5 then 123::(commas (List.zipWith QbU j.ks (j.l.map QaT))++ [125])
  else [110,117,108,108]:=by
 obtain⟨k,n,t,ks,l⟩:=j
 conv=>lhs;unfold QaT
 rw[Qlg];rfl
def Qc4(w:Tx→J→Tx):Bool→Tx→List J→Tx
 |_,b,[]=>b
 |first,b,j::l=>Qc4 w false (w (if first then b else b++ [44]) j) l
def QgY(w:Tx→J→Tx)(ks:List Tx)(l:List J):Bool→Tx→List Nat→Tx
 |_,b,[]=>b
 |first,b,i::P=>QgY w ks l false (w ((if first then b else b++ [44])++QaK (ks.getD i [])++ [58]) (l.getD i J.zero)) P
def QaS:Nat→Tx→J→Tx
 |0,b,_=>b
 |f+1,b,j=>
  if 16384<b.length then b
  else if j.k=1 then b++(if j.n=1 then [116,114,117,101]else [102,97,108,115,101])
  else if j.k=2 then b++Lib.itoa j.n
  else if j.k=3 then b++QaK j.t
  else if j.k=4 then Qc4 (QaS f) true (b++ [91]) j.l++ [93]
  else if j.k=5 then QgY (QaS f) j.ks j.l true (b++ [123]) (Qar j.ks)++ [125]
  else b++ [110,117,108,108]
theorem Qix(w:Tx→J→Tx):∀(l:List J) (first:Bool) (b:Tx) (j:J),Qc4 w first b (l++ [j])=w (if first&&l.isEmpty then Qc4 w first b l else Qc4 w first b l++ [44]) j
 | [],first,b,j=>by cases first<;>rfl
 |a::l,first,b,j=>by
  rw[List.cons_append]
  show Qc4 w false (w (if first=true then b else b++ [44]) a) (l++ [j])=_
  rw[Qix w l]
  simp only[Bool.false_and,List.isEmpty_cons,Bool.and_false]
  rfl
theorem Qke(w:Tx→J→Tx)(ks:List Tx)(l:List J):∀(P:List Nat) (first:Bool) (b:Tx) (i:Nat),QgY w ks l first b (P++ [i])=w ((if first&&P.isEmpty then QgY w ks l first b P else QgY w ks l first b P++ [44])++QaK (ks.getD i [])++ [58]) (l.getD i J.zero)
 | [],first,b,j=>by cases first<;>rfl
 |a::P,first,b,j=>by
  rw[List.cons_append]
  show QgY w ks l false _ (P++ [j])=_
  rw[Qke w ks l P]
  simp only[Bool.false_and,List.isEmpty_cons,Bool.and_false]
  rfl
theorem escB_len(c:UInt8):(Qb4 c).length≤6:=by
 unfold Qb4;(repeat' split)<;>simp
theorem Qj0:∀s:Tx,(s.flatMap Qb4).length≤6*s.length
 | []=>by simp
 |c::s=>by
  have:=Qj0 s
  have:=escB_len c
  rw[List.flatMap_cons,List.length_append,List.length_cons];omega
theorem Qep(s:Tx):(QaK s).length≤2+6*s.length:=by
 have:=Qj0 s
 unfold QaK
 simp only[List.length_cons,List.length_append,List.length_nil]
 omega
theorem Qes:∀(k u:Nat),u<10^(k+1)→Lib.nDigits u≤k+1
 |0,u,h=>by rw[Lib.nDigits_small (by simpa using h)];exact Nat.le_refl _
 |k+1,u,h=>by
  by_cases h1:u<10
  ·rw[Lib.nDigits_small h1];omega
  ·rw[Lib.nDigits_big h1]
   have:=Qes k (u/10) (by rw[Nat.pow_succ]at h;omega)
   omega
theorem itoa_len{n:Int}(h1: -9007199254740991≤n)(h2:n≤9007199254740991):(Lib.itoa n).length≤20:=by
 unfold Lib.itoa
 split
 ·rw[List.length_cons,Lib.decDigits_length]
  have:=Qes 17 n.natAbs (by omega)
  omega
 ·rw[Lib.decDigits_length]
  have:=Qes 17 n.toNat (by omega)
  omega
theorem QgD{w:Tx→J→Tx}(hw:∀b j,b.length≤(w b j).length):∀(l:List J) (first:Bool) (b:Tx),b.length≤(Qc4 w first b l).length
 | [],_,_=>Nat.le_refl _
 |j::l,first,b=>by
  unfold Qc4
  refine Nat.le_trans ?_ (QgD hw l _ _)
  refine Nat.le_trans ?_ (hw _ _)
  split<;>simp
theorem Qjz{w:Tx→J→Tx}(hw:∀b j,b.length≤(w b j).length){ks:List Tx}{l:List J}:∀(P:List Nat) (first:Bool) (b:Tx),b.length≤(QgY w ks l first b P).length
 | [],_,_=>Nat.le_refl _
 |j::P,first,b=>by
  unfold QgY
  refine Nat.le_trans ?_ (Qjz hw P _ _)
  refine Nat.le_trans ?_ (hw _ _)
  split<;>simp<;>omega
theorem Qdh:∀(f:Nat) (b:Tx) (j:J),b.length≤(QaS f b j).length
 |0,_,_=>Nat.le_refl _
 |f+1,b,j=>by
  unfold QaS
  (repeat' split)<;>try(simp;done)
  ·have:=QgD (Qdh f) j.l true (b++ [91])
   simp only[List.length_append,List.length_singleton]at this⊢;omega
  ·have:=Qjz (Qdh f) (ks:=j.ks) (l:=j.l) (Qar j.ks) true (b++ [123])
   simp only[List.length_append,List.length_singleton]at this⊢;omega
def sameB:Nat→J→J→Bool
 |0,_,_=>false
 |f+1,a,b=>decide (a.k=b.k)&&decide (a.n=b.n)&&decide (a.t=b.t)&&decide (a.ks=b.ks)&&decide (a.l.length=b.l.length)&&(List.zipWith (sameB f) a.l b.l).all id
theorem Qeq{l m:List Nat}(h:l.Perm m):l.sum=m.sum:=by
 induction h with
 |nil=>rfl
 |cons x _ ih=>simp only[List.sum_cons,ih]
 |swap x y l=>simp only[List.sum_cons];omega
 |trans _ _ h1 h2=>exact h1.trans h2
theorem Qbv{α:Type}(l:List α)(d:α):(List.range l.length).map (fun i=>l.getD i d)=l:=by
 apply List.ext_getElem
 ·simp
 ·intro i h1 h2
  simp[List.getD,h2]
theorem getD_map{α β:Type}(f:α→β)(l:List α){i:Nat}(h:i<l.length)(d:α)(e:β):(l.map f).getD i e=f (l.getD i d):=by
 simp[List.getD,h]
theorem QgC{w:Tx→J→Tx}:∀(l:List J) (first:Bool) (b:Tx),(∀y∈l,∀b,(w b y).length+1≤b.length+32*wt y)→(Qc4 w first b l).length≤b.length+32*wts l
 | [],_,b,_=>by simp[Qc4]
 |j::l,first,b,h=>by
  unfold Qc4
  have h1:=QgC l false (w (if first=true then b else b++ [44]) j) fun y hy=>h y (List.mem_cons_of_mem _ hy)
  have h2:=h j (by simp) (if first=true then b else b++ [44])
  have h3:(if first=true then b else b++ [44]).length≤b.length+1:=by split<;>simp
  rw[Qcj];omega
theorem Qjy{w:Tx→J→Tx}{ks:List Tx}{l:List J}:∀(P:List Nat) (first:Bool) (b:Tx),(∀i∈P,∀b,(w b (l.getD i J.zero)).length+1≤b.length+32*wt (l.getD i J.zero))→
  (QgY w ks l first b P).length≤b.length+(P.map fun i=>32*wt (l.getD i J.zero)+6*(ks.getD i []).length+4).sum
 | [],_,b,_=>by simp[QgY]
 |j::P,first,b,h=>by
  unfold QgY
  have h1:=Qjy (ks:=ks) P false (w ((if first=true then b else b++ [44])++QaK (ks.getD j [])++ [58]) (l.getD j J.zero)) fun y hy=>h y (List.mem_cons_of_mem _ hy)
  have h2:=h j (by simp) ((if first=true then b else b++ [44])++QaK (ks.getD j [])++ [58])
  have h3:(if first=true then b else b++ [44]).length≤b.length+1:=by split<;>simp
  have h4:=Qep (ks.getD j [])
  simp only[List.length_append,List.length_singleton]at h2
  rw[List.map_cons,List.sum_cons];omega
theorem QlM:∀(f:J→Nat) (g:Tx→Nat) (ks:List Tx) (l:List J) (P:List Nat),(P.map fun i=>32*f (l.getD i J.zero)+6*g (ks.getD i [])+4).sum=32*(P.map fun i=>f (l.getD i J.zero)).sum+6*(P.map fun i=>g (ks.getD i [])).sum+4*P.length
 |f,g,ks,l,[]=>rfl
 |f,g,ks,l,i::P=>by
  have:=QlM f g ks l P
  simp only[List.map_cons,List.sum_cons,List.length_cons,this];omega
theorem QeH:∀l:List J,(l.map wt).sum=wts l
 | []=>rfl
 |a::l=>by rw[List.map_cons,List.sum_cons,QeH l,Qcj]
theorem Ql9:∀ks:List Tx,(ks.map List.length).sum+ks.length=(ks.map fun k=>k.length+1).sum
 | []=>rfl
 |a::l=>by have:=Ql9 l;simp only[List.map_cons,List.sum_cons,List.length_cons]at*;omega
theorem QfF{j:J}(h:Qan j=true)(h2:j.k=2): -9007199254740991≤j.n∧j.n≤9007199254740991:=by
 unfold Qan at h
 rw[if_neg (by omega),if_neg (by omega),if_pos h2]at h
 simp only[Bool.and_eq_true,decide_eq_true_eq]at h
 exact⟨h.1.2,h.2⟩
theorem Qcf{j:J}(h:Qan j=true)(h5:j.k=5):j.ks.length=j.l.length∧j.ks.Nodup:=by
 unfold Qan at h
 rw[if_neg (by omega),if_neg (by omega),if_neg (by omega),if_neg (by omega),if_neg (by omega),if_pos h5]at h
 simp only[Bool.and_eq_true,decide_eq_true_eq,Qbr]at h
 exact⟨h.1.1.1,h.2.2⟩
theorem Qdg:∀(f:Nat) (b:Tx) (j:J),goodB f j=true→(QaS f b j).length+1≤b.length+32*wt j
 |0,_,_,h=>by cases h
 |f+1,b,j,h=>by
  obtain⟨hs,ha⟩:=Bool.and_eq_true_iff.1 (show(Qan j&&j.l.all (goodB f))=true from h)
  have hall:∀y∈j.l,goodB f y=true:=fun y hy=>List.all_eq_true.1 ha y hy
  have hw:=QdQ j
  unfold QaS
  split
  ·omega
  split
  ·rw[List.length_append];split<;>simp<;>omega
  split
  ·rename_i h2
   obtain⟨r1,r2⟩:=QfF hs h2
   have:=itoa_len r1 r2
   rw[List.length_append];omega
  split
  ·have:=Qep j.t
   rw[List.length_append];omega
  split
  ·have:=QgC (w:=QaS f) j.l true (b++ [91]) fun y hy b=>Qdg f b y (hall y hy)
   simp only[List.length_append,List.length_singleton]at this⊢;omega
  split
  ·rename_i h5
   obtain⟨hl,hd⟩:=Qcf hs h5
   have h1:=Qjy (w:=QaS f) (ks:=j.ks) (l:=j.l) (Qar j.ks) true (b++ [123]) fun i hi b=>Qdg f b _ (hall _ (by
    have:=Qbu hi
    simp only[List.getD,List.getElem?_eq_getElem (show i<j.l.length by omega),Option.getD_some]
    exact List.getElem_mem _))
   rw[QlM wt List.length,Qeq ((Qa1 j.ks).map fun i=>wt (j.l.getD i J.zero)),Qeq ((Qa1 j.ks).map fun i=>(j.ks.getD i []).length),QaV]at h1
   have e1:(List.range j.ks.length).map (fun i=>wt (j.l.getD i J.zero))=j.l.map wt:=by
    rw[hl,show(fun i=>wt (j.l.getD i J.zero))=wt∘(fun i=>j.l.getD i J.zero)from rfl,←List.map_map,Qbv]
   have e2:(List.range j.ks.length).map (fun i=>(j.ks.getD i []).length)=j.ks.map List.length:=by
    rw[show(fun i=>(j.ks.getD i []).length)=List.length∘(fun i=>j.ks.getD i [])from rfl,←List.map_map,Qbv]
   rw[e1,e2,QeH]at h1
   have h3:=Ql9 j.ks
   simp only[List.length_append,List.length_singleton]at h1⊢
   omega
  ·simp only[List.length_append,List.length_cons,List.length_nil];omega
def Rel(r e:Tx):Prop:=r=e∨(16384<r.length∧16384<e.length)
theorem Rel.app{r e:Tx}(h:Rel r e)(x:Tx):Rel (r++x) (e++x):=by
 rcases h with rfl|⟨h1,h2⟩
 ·exact .inl rfl
 ·exact .inr ⟨by rw[List.length_append];omega,by rw[List.length_append];omega⟩
def Qa7(E:List Tx):Tx:=E.flatMap fun e=>44::e
theorem QcV:∀(a:Tx) (E:List Tx),commas (a::E)=a++Qa7 E
 |a,[]=>by simp[commas,Qa7]
 |a,b::E=>by
  show a++44::commas (b::E)=a++Qa7 (b::E)
  rw[QcV b E];simp[Qa7]
theorem Qkf{w:Tx→J→Tx}{enc:J→Tx}(hg:∀b j,b.length≤(w b j).length):∀(l:List J) (b:Tx),(∀y∈l,∀b,Rel (w b y) (b++enc y))→Rel (Qc4 w false b l) (b++Qa7 (l.map enc))
 | [],b,_=> .inl (by simp[Qc4,Qa7])
 |j::l,b,h=>by
  unfold Qc4
  rw[if_neg (by simp)]
  have h1:=h j (by simp) (b++ [44])
  have e:b++Qa7 ((j::l).map enc)=(b++ [44]++enc j)++Qa7 (l.map enc):=by simp[Qa7]
  rw[e]
  rcases h1 with h1|⟨h1,h2⟩
  ·rw[h1]
   exact Qkf hg l _ fun y hy=>h y (List.mem_cons_of_mem _ hy)
  ·have h3:=QgD hg l false (w (b++ [44]) j)
   exact .inr ⟨by omega,by rw[List.length_append];omega⟩
theorem QmK{w:Tx→J→Tx}{enc:J→Tx}(hg:∀b j,b.length≤(w b j).length){ks:List Tx}{l:List J}:∀(P:List Nat) (b:Tx),(∀i∈P,∀b,Rel (w b (l.getD i J.zero)) (b++enc (l.getD i J.zero)))→
  Rel (QgY w ks l false b P) (b++Qa7 (P.map fun i=>QbU (ks.getD i []) (enc (l.getD i J.zero))))
 | [],b,_=> .inl (by simp[QgY,Qa7])
 |j::P,b,h=>by
  unfold QgY
  rw[if_neg (by simp)]
  have h1:=h j (by simp) (b++ [44]++QaK (ks.getD j [])++ [58])
  have e:b++Qa7 ((j::P).map fun i=>QbU (ks.getD i []) (enc (l.getD i J.zero)))=(b++ [44]++QaK (ks.getD j [])++ [58]++enc (l.getD j J.zero))++Qa7 (P.map fun i=>QbU (ks.getD i []) (enc (l.getD i J.zero))):=by simp[Qa7,QbU]
  rw[e]
  rcases h1 with h1|⟨h1,h2⟩
  ·rw[h1]
   exact QmK hg P _ fun y hy=>h y (List.mem_cons_of_mem _ hy)
  ·have h3:=Qjz hg (ks:=ks) (l:=l) P false (w (b++ [44]++QaK (ks.getD j [])++ [58]) (l.getD j J.zero))
   exact .inr ⟨by omega,by rw[List.length_append];omega⟩
theorem QoQ{α β γ δ:Type}(f:β→γ→δ)(g:α→β)(h:α→γ):∀P:List α,List.zipWith f (P.map g) (P.map h)=P.map fun i=>f (g i) (h i)
 | []=>rfl
 |a::P=>by simp[QoQ f g h P]
theorem QdS:∀(f:Nat) (b:Tx) (j:J),goodB f j=true→Rel (QaS f b j) (b++QaT (Qaf j))
 |0,_,_,h=>by cases h
 |f+1,b,j,h=>by
  obtain⟨hs,ha⟩:=Bool.and_eq_true_iff.1 (show(Qan j&&j.l.all (goodB f))=true from h)
  have hall:∀y∈j.l,goodB f y=true:=fun y hy=>List.all_eq_true.1 ha y hy
  have hk:(Qaf j).k=j.k∧(Qaf j).n=j.n∧(Qaf j).t=j.t:=by
   rw[Qb8];split<;>exact⟨rfl,rfl,rfl⟩
  rw[Qcw,hk.1,hk.2.1,hk.2.2]
  unfold QaS
  by_cases hb:16384<b.length
  ·rw[if_pos hb]
   exact .inr ⟨hb,by rw[List.length_append];omega⟩
  rw[if_neg hb]
  split
  ·exact .inl rfl
  split
  ·exact .inl rfl
  split
  ·exact .inl rfl
  split
  ·rename_i h4
   have e:(Qaf j).l=j.l.map Qaf:=by rw[Qb8,if_neg (by omega)];rfl
   rw[e,List.map_map]
   cases hl:j.l with
   |nil=>exact .inl (by simp[Qc4,commas])
   |cons y l=>
    have hy:∀z∈y::l,goodB f z=true:=by rw[←hl];exact hall
    rw[List.map_cons,QcV]
    have h1:=QdS f (b++ [91]) y (hy y (by simp))
    have e:b++91::(((QaT∘Qaf) y++Qa7 (l.map (QaT∘Qaf)))++ [93])=((b++ [91]++QaT (Qaf y))++Qa7 (l.map (QaT∘Qaf)))++ [93]:=by simp
    rw[e]
    refine Rel.app ?_ _
    unfold Qc4
    rw[if_pos rfl]
    rcases h1 with h1|⟨h1,h2⟩
    ·rw[h1]
     exact Qkf (Qdh f) l _ fun z hz b=>QdS f b z (hy z (List.mem_cons_of_mem _ hz))
    ·have h3:=QgD (Qdh f) l false (QaS f (b++ [91]) y)
     exact .inr ⟨by omega,by rw[List.length_append];omega⟩
  split
  ·rename_i h5
   obtain⟨hlen,hd⟩:=Qcf hs h5
   have e1:(Qaf j).ks=(Qar j.ks).map fun i=>j.ks.getD i []:=by rw[Qb8,if_pos h5];rfl
   have e2:(Qaf j).l=(Qar j.ks).map fun i=>(j.l.map Qaf).getD i J.zero:=by rw[Qb8,if_pos h5];rfl
   have e3:(Qaf j).l.map QaT=(Qar j.ks).map fun i=>QaT (Qaf (j.l.getD i J.zero)):=by
    rw[e2,List.map_map]
    apply List.map_congr_left
    intro i hi
    have:=Qbu hi
    show QaT ((j.l.map Qaf).getD i J.zero)=_
    rw[getD_map Qaf j.l (by omega) J.zero]
   rw[e1,e3,QoQ]
   have hm:∀i∈Qar j.ks,goodB f (j.l.getD i J.zero)=true:=fun i hi=>hall _ (by
    have:=Qbu hi
    simp only[List.getD,List.getElem?_eq_getElem (show i<j.l.length by omega),Option.getD_some]
    exact List.getElem_mem _)
   generalize Qar j.ks=P at hm⊢
   cases P with
   |nil=>exact .inl (by simp[QgY,commas])
   |cons y P=>
    rw[List.map_cons,QcV]
    have h1:=QdS f (b++ [123]++QaK (j.ks.getD y [])++ [58]) (j.l.getD y J.zero) (hm y (by simp))
    have e:b++123::((QbU (j.ks.getD y []) (QaT (Qaf (j.l.getD y J.zero)))++Qa7 (P.map fun i=>QbU (j.ks.getD i []) (QaT (Qaf (j.l.getD i J.zero)))))++ [125])=
     ((b++ [123]++QaK (j.ks.getD y [])++ [58]++QaT (Qaf (j.l.getD y J.zero)))++Qa7 (P.map fun i=>QbU (j.ks.getD i []) (QaT (Qaf (j.l.getD i J.zero)))))++ [125]:=by simp[QbU]
    rw[e]
    refine Rel.app ?_ _
    unfold QgY
    rw[if_pos rfl]
    rcases h1 with h1|⟨h1,h2⟩
    ·rw[h1]
     exact QmK (enc:=fun j=>QaT (Qaf j)) (Qdh f) P _ fun z hz b=>QdS f b _ (hm z (List.mem_cons_of_mem _ hz))
    ·have h3:=Qjz (Qdh f) (ks:=j.ks) (l:=j.l) P false (QaS f (b++ [123]++QaK (j.ks.getD y [])++ [58]) (j.l.getD y J.zero))
     exact .inr ⟨by omega,by rw[List.length_append];omega⟩
  ·exact .inl rfl
def QbB(j:J):Except Nat Tx:=if goodB 12 j then(if 16384<(QaT (Qaf j)).length then .error 13 else .ok (QaT (Qaf j)))else .error 1
theorem Qle{j:J}(h:goodB 12 j=true):QbB j=if 16384<(QaS 12 [] j).length then .error 13 else .ok (QaS 12 [] j):=by
 unfold QbB
 rw[if_pos h]
 have:=QdS 12 [] j h
 rw[List.nil_append]at this
 rcases this with h1|⟨h1,h2⟩
 ·rw[h1]
 ·rw[if_pos h1,if_pos h2]
theorem J.ext{a b:J}(h1:a.k=b.k)(h2:a.n=b.n)(h3:a.t=b.t)(h4:a.ks=b.ks)(h5:a.l=b.l):a=b:=by
 obtain⟨k,n,t,ks,l⟩:=a
 obtain⟨k',n',t',ks',l'⟩:=b
 simp only[J.k,J.n,J.t,J.ks,J.l]at h1 h2 h3 h4 h5
 subst h1 h2 h3 h4 h5;rfl
theorem QmS:∀ {a b:List Tx},a.map D.str=b.map D.str→a=b
 | [],[],_=>rfl
 | [],_::_,h=>by cases h
 |_::_,[],h=>by cases h
 |x::a,y::b,h=>by
  injection h with h1 h2
  injection h1 with h1
  rw[h1,QmS h2]
theorem Qi5:∀(n:Nat) (a b:J),wt a≤n→a.d=b.d→a=b
 |0,a,_,h,_=>absurd (Qkd a) (by omega)
 |n+1,a,b,h,e=>by
  rw[jd,jd]at e
  injection e with e
  simp only[List.cons.injEq,D.int.injEq,D.str.injEq,D.slice.injEq,true_and,and_true]at e
  obtain⟨h1,h2,h3,h4,h5⟩:=e
  refine J.ext h1 h2 h3 (QmS h4) ?_
  have key:∀l m:List J,(∀y∈l,wt y≤n)→l.map J.d=m.map J.d→l=m:=by
   intro l
   induction l with
   |nil=>intro m _ hm;cases m with
    |nil=>rfl
    |cons _ _=>cases hm
   |cons y l ih=>
    intro m hw hm
    cases m with
    |nil=>cases hm
    |cons z m=>
     injection hm with h1 h2
     rw[Qi5 n y z (hw y (by simp)) h1,ih m (fun y hy=>hw y (List.mem_cons_of_mem _ hy)) h2]
  exact key a.l b.l (fun y hy=>by have:=Qga hy;omega) h5
theorem jd_inj{a b:J}(h:a.d=b.d):a=b:=Qi5 (wt a) a b (Nat.le_refl _) h
def sJ(a b:J):Bool:=D.beq a.d b.d
theorem Qku(a b:J):sJ a b=true↔a=b:=by
 unfold sJ
 rw[@D.beq_iff ⟨fun _=>none,fun _=>false,fun _=>false⟩]
 exact⟨jd_inj,fun h=>by rw[h]⟩
theorem sJ_self(a:J):sJ a a=true:=(Qku a a).2 rfl
theorem Qkt{a b:J}(h:a≠b):sJ a b=false:=by rw[Bool.eq_false_iff,Ne,Qku];exact h
def digF:Nat→Nat→Tx→Tx
 |0,_,s=>s
 |f+1,n,s=>if s= []∨0<n then digF f (n/10) (UInt8.ofNat (48+n % 10)::s)else s
end Go.Proofs.YtmhmjlfajlpabaaDoor
namespace Go.Proofs.YtmhmjlfajlpabaaDoor
open Go Go.Abs Go.Lib
theorem Qgc{α:Type}{a b:List α}{i:Nat}{x y:α}(h:a.take i=b.take i)(ha:a[i]? =some x)(hb:b[i]? =some y)(e:x=y):a.take (i+1)=b.take (i+1):=by
 rw[List.take_add_one,List.take_add_one,ha,hb,h,e]
theorem QmF:∀(N:Nat) (lim:Nat) (H:Qaa) (a b:J),wt a≤N→N≤100000000000→wt b≤100000000000→Ev (QaH code Qaq) 14 lim [.d a.d,.d b.d] H (boolD (sJ a b)) H
 |0,_,_,a,_,h,_,_=>absurd (Qkd a) (by omega)
 |N+1,lim,H,a,b,ha,hN,hb=>by
  refine Fn.ev ?_
  refine Qa2 (pn rfl) rfl (show code 14=some c14 from rfl) rfl ?_;simp only[List.length_cons,List.length_nil,List.cons_append,List.nil_append,simprocAttr]
  have had:=jd a
  have hbd:=jd b
  obtain⟨J',hJ⟩:∃J',H++ [AObj.cells (jC a)]=J':=⟨_,rfl⟩
  obtain⟨K,hK⟩:∃K,J'++ [AObj.cells (jC b)]=K:=⟨_,rfl⟩
  have gK:K[H.length]? =some (.cells (jC a)):=by rw[←hK,←hJ];exact QjY _ (Qa3 _ _)
  have gK2:K[J'.length]? =some (.cells (jC b)):=by rw[←hK];exact Qa3 _ _
  have a1:=QnK a
  have a2:=wt_l a
  have b1:=QnK b
  have b2:=wt_l b
  (iterate 2 refine w_s (j_ had (j_ hbd (j_ hJ hK))) ?_)
  by_cases k1:a.k=b.k
  rotate_left
  ·have f1:(a.k !=b.k)=true:=by simpa using k1
   rw[Qkt fun e=>k1 (by rw[e])]
   refine w_r (j_ gK (j_ gK2 f1)) ?_
   exact Qad rfl rfl ⟨rfl,rfl⟩
  have f1:(a.k !=b.k)=false:=by simpa using k1
  by_cases k2:a.n=b.n
  rotate_left
  ·have f2:(a.n !=b.n)=true:=by simpa using k2
   rw[Qkt fun e=>k2 (by rw[e])]
   refine w_r (j_ gK (j_ gK2 (j_ f1 f2))) ?_
   exact Qad rfl rfl ⟨rfl,rfl⟩
  have f2:(a.n !=b.n)=false:=by simpa using k2
  by_cases k3:a.t=b.t
  rotate_left
  ·have f3:(!(a.t==b.t))=true:=by simpa using k3
   rw[Qkt fun e=>k3 (by rw[e])]
   refine w_r (j_ gK (j_ gK2 (j_ f1 (j_ f2 f3)))) ?_
   exact Qad rfl rfl ⟨rfl,rfl⟩
  have f3:(!(a.t==b.t))=false:=by simpa using k3
  by_cases k4:a.ks.length=b.ks.length
  rotate_left
  ·have f4:((a.ks.length:Int) !=(b.ks.length:Int))=true:=by simp;omega
   rw[Qkt fun e=>k4 (by rw[e])]
   refine w_r (j_ gK (j_ gK2 (j_ f1 (j_ f2 (j_ f3 (j_ f4 (@List.length_map.{0,0}))))))) ?_
   exact Qad rfl rfl ⟨rfl,rfl⟩
  have f4:((a.ks.length:Int) !=(b.ks.length:Int))=false:=by simp;omega
  by_cases k5:a.l.length=b.l.length
  rotate_left
  ·have f5:((a.l.length:Int) !=(b.l.length:Int))=true:=by simp;omega
   rw[Qkt fun e=>k5 (by rw[e])]
   refine w_r (j_ gK (j_ gK2 (j_ f1 (j_ f2 (j_ f3 (j_ f4 (j_ f5 (@List.length_map.{0,0})))))))) ?_
   exact Qad rfl rfl ⟨rfl,rfl⟩
  have f5:((a.l.length:Int) !=(b.l.length:Int))=false:=by simp;omega
  refine w_r (j_ gK (j_ gK2 (j_ f1 (j_ f2 (j_ f3 (j_ f4 (j_ f5 (@List.length_map.{0,0})))))))) ?_
  refine QgT (fun k st=>∃i:Nat,i≤a.ks.length∧k=a.ks.length-i∧a.ks.take i=b.ks.take i∧∃x:Nat→AV,st=⟨[x 0,x 1,x 2,x 3,x 4,x 5,x 6,boolD false,.ptr H.length 0,.ptr J'.length 0,intD i,x 11,x 12,x 13,x 14],K⟩) ?_ _ _ ⟨0,Nat.zero_le _,rfl,rfl,Qao _ _ _ rfl⟩
  rintro k _ ⟨i,hi,rfl,he,x,rfl⟩
  by_cases t0:i<a.ks.length
  ·have g1:((i:Int)<(a.ks.length:Int))=True:=eq_true (by omega)
   have w1:IntKind.i64.wrap ((i:Int)+1)=((i+1:Nat):Int):=Qdf (by omega)
   obtain⟨s,hs⟩:∃s,a.ks[i]? =some s:=⟨_,List.getElem?_eq_getElem t0⟩
   obtain⟨t,ht⟩:∃t,b.ks[i]? =some t:=⟨_,List.getElem?_eq_getElem (by omega)⟩
   have hc:∀s:Tx,(D.str s).cells= [D.str s]:=fun _=>rfl
   by_cases h:s=t
   ·have g2:(!(s==t))=false:=by simpa using h
    refine w_r (j_ gK (j_ gK2 (j_ g1 (j_ w1 (j_ hs (j_ ht (j_ hc (j_ g2 (@List.length_map.{0,0}))))))))) ?_
    exact⟨a.ks.length-(i+1),by omega,i+1,t0,rfl,Qgc he hs ht h,Qao _ _ _ rfl⟩
   ·have g2:(!(s==t))=true:=by simpa using h
    rw[Qkt fun e=>h (by rw[e,ht]at hs;exact(Option.some.inj hs).symm)]
    refine w_r (j_ gK (j_ gK2 (j_ g1 (j_ hs (j_ ht (j_ hc (j_ g2 (@List.length_map.{0,0})))))))) ?_
    exact Qad rfl rfl ⟨rfl,rfl⟩
  ·obtain rfl:i=a.ks.length:=by omega
   have g1:((a.ks.length:Int)<(a.ks.length:Int))=False:=eq_false (by omega)
   rw[List.take_length,k4,List.take_length]at he
   refine w_r (j_ gK (j_ g1 (@List.length_map.{0,0}))) ?_
   refine QgT (fun k st=>∃i:Nat,i≤a.l.length∧k=a.l.length-i∧a.l.take i=b.l.take i∧∃x:Nat→AV,st=⟨[x 0,x 1,x 2,x 3,x 4,x 5,x 6,boolD false,.ptr H.length 0,.ptr J'.length 0,x 10,intD i,x 12,x 13,x 14],K⟩) ?_ _ _ ⟨0,Nat.zero_le _,rfl,rfl,Qao _ _ _ rfl⟩
   rintro k _ ⟨i,hi,rfl,hel,x,rfl⟩
   by_cases t0:i<a.l.length
   ·have g1:((i:Int)<(a.l.length:Int))=True:=eq_true (by omega)
    have w1:IntKind.i64.wrap ((i:Int)+1)=((i+1:Nat):Int):=Qdf (by omega)
    obtain⟨y,hy⟩:∃y,a.l[i]? =some y:=⟨_,List.getElem?_eq_getElem t0⟩
    obtain⟨z,hz⟩:∃z,b.l[i]? =some z:=⟨_,List.getElem?_eq_getElem (by omega)⟩
    have hyd:=jd y
    have hzd:=jd z
    have hs:=QmF N H.length K y z (by have:=Qga (List.mem_of_getElem? hy);omega) (by omega) (by have:=Qga (List.mem_of_getElem? hz);omega)
    simp only[hyd,hzd]at hs
    by_cases h:y=z
    ·rw[(Qku y z).2 h]at hs
     refine w_r (j_ gK (j_ g1 (@List.length_map.{0,0}))) ?_
     refine Qcb ?_;apply QdM 8;(focus(intro _;simp only[zz,simprocAttr,gK,gK2,hy,hz,hyd,hzd];(first|done|with_reducible exact rfl)));simp only[List.drop_succ_cons,List.drop_zero];refine Qdd ?_;simp only[zz,simprocAttr];refine Ev.fn hs ?_
     (apply Qek;(focus(intro _;simp only[zz,simprocAttr];(first|done|with_reducible exact rfl))))<;>(try simp only[zp,simprocAttr])
     refine w_r w1 ?_
     exact⟨a.l.length-(i+1),by omega,i+1,t0,rfl,Qgc hel hy hz h,Qao _ _ _ rfl⟩
    ·rw[Qkt h]at hs
     rw[Qkt fun e=>h (by rw[e,hz]at hy;exact(Option.some.inj hy).symm)]
     refine w_r (j_ gK (j_ g1 (@List.length_map.{0,0}))) ?_
     refine Qcb ?_;apply QdM 8;(focus(intro _;simp only[zz,simprocAttr,gK,gK2,hy,hz,hyd,hzd];(first|done|with_reducible exact rfl)));simp only[List.drop_succ_cons,List.drop_zero];refine Qdd ?_;simp only[zz,simprocAttr];refine Ev.fn hs ?_
     (apply Qek;(focus(intro _;simp only[zz,simprocAttr];(first|done|with_reducible exact rfl))))<;>(try simp only[zp,simprocAttr])
     refine w_r trivial ?_
     exact Qad rfl rfl ⟨rfl,rfl⟩
   ·obtain rfl:i=a.l.length:=by omega
    have g1:((a.l.length:Int)<(a.l.length:Int))=False:=eq_false (by omega)
    rw[List.take_length,k5,List.take_length]at hel
    rw[(Qku a b).2 (J.ext k1 k2 k3 he hel)]
    refine w_r (j_ gK (j_ g1 (@List.length_map.{0,0}))) ?_
    exact Qad rfl rfl ⟨rfl,rfl⟩
abbrev hexs:Tx:= [48,49,50,51,52,53,54,55,56,57,97,98,99,100,101,102]
theorem hex_at:∀n:Fin 16,hexs[n.val]? =some (QgN n.val):=by decide
theorem Qqn{s:Tx}{i:Nat}{c:UInt8}(h:s[i]? =some c):(s.take i).flatMap Qb4++Qb4 c=(s.take (i+1)).flatMap Qb4:=by
 rw[List.take_add_one,h];simp
end Go.Proofs.YtmhmjlfajlpabaaDoor
namespace Go.Proofs.YtmhmjlfajlpabaaDoor
open Go Go.Abs
def TxtOK:Nat→J→Prop
 |0,_=>False
 |n+1,j=>(j.k=2→-9007199254740991≤j.n∧j.n≤9007199254740991)∧(j.k=5→j.ks.length=j.l.length)∧∀y∈j.l,TxtOK n y
theorem QfC:∀ {l:List J},(∀y∈l,wt (Qaf y)=wt y)→wts (l.map Qaf)=wts l
 | [],_=>rfl
 |a::l,h=>by rw[List.map_cons,Qcj,Qcj,h a (by simp),QfC fun y hy=>h y (List.mem_cons_of_mem _ hy)]
theorem wt_mk(k n:Int)(t:Tx)(ks:List Tx)(l:List J):wt (.mk k n t ks l)=1+t.length+(ks.map fun k=>k.length+1).sum+wts l:=QdQ _
theorem QgA:∀ {n:Nat} {j:J},OrdOK n j→wt (Qaf j)=wt j
 |0,_,h=>h.elim
 |n+1,j,⟨h1,h2,_,h4⟩=>by
  have ih:∀y∈j.l,wt (Qaf y)=wt y:=fun y hy=>QgA (h4 y hy)
  rw[Qb8]
  split
  ·rename_i h5
   obtain⟨hl,hd⟩:=h1 h5
   rw[wt_mk,QdQ j]
   have e1:(((Qar j.ks).map fun i=>j.ks.getD i []).map fun k=>k.length+1).sum=(j.ks.map fun k=>k.length+1).sum:=by
    rw[List.map_map,Qeq ((Qa1 j.ks).map _),←List.map_map,Qbv]
   have e2:wts ((Qar j.ks).map fun i=>(j.l.map Qaf).getD i J.zero)=wts j.l:=by
    rw[←QeH,List.map_map,Qeq ((Qa1 j.ks).map _),←List.map_map,hl,show j.l.length=(j.l.map Qaf).length by simp,Qbv,QeH,QfC ih]
   rw[e1,e2]
  ·rename_i h5
   rw[wt_mk,QdQ j,h2 h5,QfC ih]
end Go.Proofs.YtmhmjlfajlpabaaDoor
namespace Go.Proofs.YtmhmjlfajlpabaaDoor
open Go Go.Abs Go.Lib
def Qc5(n:Nat)(Q:List Nat):List AV:=(List.range n).map fun p=>boolD (Q.contains p)
theorem QhZ(n:Nat)(Q:List Nat):(Qc5 n Q).length=n:=by simp[Qc5]
theorem Qdw{n p:Nat}(h:p<n)(Q:List Nat):(Qc5 n Q)[p]? =some (boolD (Q.contains p)):=by
 unfold Qc5;rw[List.getElem?_map,List.getElem?_range h];rfl
theorem QoF(n:Nat):(List.replicate n [boolD false]).flatten=Qc5 n []:=by
 apply List.ext_getElem
 ·simp[Qc5,List.length_flatten]
 ·intro i h1 h2
  simp[Qc5]
theorem Qqy{n p:Nat}(h:p<n)(Q:List Nat):splice (Qc5 n Q) p [boolD true]=Qc5 n (Q++ [p]):=by
 unfold splice
 apply List.ext_getElem?
 intro q
 have hl:((Qc5 n Q).take p).length=p:=by simp[Qc5];omega
 by_cases h1:q<p
 ·rw[List.getElem?_append_left (by omega),List.getElem?_take,if_pos h1,Qdw (by omega),Qdw (by omega)]
  simp[show q≠p by omega]
 ·rw[List.getElem?_append_right (by omega),hl]
  by_cases h2:q=p
  ·subst h2
   rw[Qdw h]
   simp
  ·rw[List.getElem?_append_right (by simp;omega),List.getElem?_drop,show p+ [boolD true].length+(q-p- [boolD true].length)=q by simp;omega]
   by_cases h3:q<n
   ·rw[Qdw h3,Qdw h3]
    simp[h2]
   ·rw[List.getElem?_eq_none (by rw[QhZ];omega),List.getElem?_eq_none (by rw[QhZ];omega)]
theorem least_is{ks:List Tx}(hd:ks.Nodup){i p0:Nat}(hi:i<ks.length)(h1:p0<ks.length)(h2:p0∉(Qar ks).take i)(h3:∀p,p<ks.length→p∉(Qar ks).take i→¬Qct ks p<Qct ks p0):(Qar ks)[i]? =some p0:=by
 have hl:=QaV ks
 have hg:=Qig hd
 have hn:=Qeh ks
 obtain⟨i',hi',e⟩:=List.getElem_of_mem (Qjn.2 h1)
 have hge:i≤i':=by
  rcases Nat.lt_or_ge i' i with h|h
  ·refine absurd ?_ h2
   rw[←e]
   exact List.mem_take_iff_getElem.2 ⟨i',by omega,rfl⟩
  ·exact h
 rcases Nat.lt_or_ge i i' with h|h
 ·exfalso
  rw[List.pairwise_iff_getElem]at hg
  have hlt:=hg i i' (by omega) hi' h
  rw[e]at hlt
  refine h3 _ (Qbu (List.getElem_mem (by omega))) (fun hm=> ?_) hlt
  obtain⟨q,hq,eq⟩:=List.mem_take_iff_getElem.1 hm
  have:=(List.getElem?_inj (i:=q) (j:=i) (by omega) hn).1 (by rw[List.getElem?_eq_getElem (by omega:q<(Qar ks).length),List.getElem?_eq_getElem (by omega:i<(Qar ks).length),eq])
  omega
 ·obtain rfl:i=i':=by omega
  rw[List.getElem?_eq_getElem hi',e]
theorem lt_key(a b:Tx):QdK a b=decide (a<b):=by rw[Qf6,QqK]
def QmG(ks:List Tx)(Q:List Nat)(q:Nat)(m:Int):Prop:=
 (m= -1∧∀p,p<q→p∈Q)∨∃p0:Nat,m=p0∧p0<q∧p0∉Q∧∀p,p<q→p∉Q→¬Qct ks p<Qct ks p0
theorem Qqh{α:Type}{l:List α}{i:Nat}{x d:α}(h:l[i]? =some x):l.getD i d=x:=by simp[List.getD,h]
set_option maxHeartbeats 2000000 in
theorem QeK:∀(n:Nat) (lim:Nat) (H:Qaa) (j:J),OrdOK n j→wt j≤100000000000→Ev (QaH code Qaq) 30 lim [.d j.d] H (.d (Qaf j).d) H
 |0,_,_,_,h,_=>h.elim
 |n+1,lim,H,j,⟨hm,hks,hls,hy⟩,hwt=>by
  have hk:=QnK j
  have hl:=wt_l j
  have hyw:∀y∈j.l,wt y≤100000000000:=fun y hy=>by have:=Qga hy;omega
  refine Fn.ev ?_
  refine Qa2 (pn rfl) rfl (show code 30=some c30 from rfl) rfl ?_;simp only[List.length_cons,List.length_nil,List.cons_append,List.nil_append,simprocAttr]
  obtain⟨K,kk,k0,k1,k2,k3,k4⟩:=trey H (.cells (jC j))
  obtain⟨F,ff,z0,z1,z2,z3,_,s1,s2,s3⟩:=Qqi H
  have kf:∀a b c,K a b++ [c]=F (.cells (jC j)) a b c:=fun a b c=>by rw[kk,ff];simp
  have kl:∀a b,(K a b).length=H.length+3:=fun a b=>by rw[kk];simp
  have hjd:=jd j
  have a1:(H++ [AObj.cells (jC j)]).length=H.length+1:=by simp
  have a2:∀o,(H++ [AObj.cells (jC j)]++ [o]).length=H.length+2:=fun o=>by simp
  have a3:∀o o',(H++ [AObj.cells (jC j)]++ [o]++ [o'])=K o o':=fun o o'=>by rw[kk];simp
  have a4:∀o,(H++ [AObj.cells (jC j)]++ [o])[H.length]? =some (.cells (jC j)):=fun o=>by simp
  have hll1:H.length≤H.length+1:=by omega
  have hll2:H.length≤H.length+2:=by omega
  have hll3:H.length≤H.length+3:=by omega
  rw[Qb8]
  (iterate 4 refine w_s (j_ hjd (j_ a1 (j_ a2 (j_ a3 (j_ a4 (j_ k0 (j_ k1 (j_ k2 (j_ k3 (j_ k4 hll2)))))))))) ?_)
  have e0:=QoF j.ks.length
  have c1:((j.ks.length:Int)≤281474976710656)=True:=eq_true (by omega)
  have c2:((j.ks.length:Int)*1≤281474976710656)=True:=eq_true (by omega)
  by_cases h5:j.k=5
  ·rw[if_pos h5]
   have c5:(j.k==4)=false:=by rw[h5];rfl
   obtain⟨hkl,hnd⟩:=hm h5
   obtain⟨P,hP⟩:∃P,Qar j.ks=P:=⟨_,rfl⟩
   have hPl:=QaV j.ks
   have hPm:∀i∈P,i<j.ks.length:=fun i hi=>Qbu (hP▸hi)
   rw[hP]at hPl
   rw[hP]
   refine w_r (j_ k0 (j_ c5 (j_ c1 (j_ c2 (j_ e0 (j_ kf (j_ kl (@List.length_map.{0,0})))))))) ?_
   refine QgT (fun k st=>∃i:Nat,i≤j.ks.length∧k=j.ks.length-i∧∃x:Nat→AV,st=⟨[x 0,x 1,x 2,x 3,x 4,x 5,.ptr (H.length+1) 0,.ptr H.length 0,.ptr (H.length+2) 0,x 9,.oslice (H.length+3) 0 j.ks.length j.ks.length 1,intD i,x 12,x 13,x 14,x 15,x 16,x 17,x 18],F (.cells (jC j)) (Qgj 0 0 [] [] []) (Qgj j.k j.n j.t ((P.take i).map fun i=>j.ks.getD i []) ((P.take i).map fun i=>(j.l.map Qaf).getD i J.zero)) (.cells (Qc5 j.ks.length (P.take i)))⟩) ?_ _ _ ⟨0,Nat.zero_le _,rfl,Qao _ _ _ rfl⟩
   rintro k _ ⟨i,hi,rfl,x,rfl⟩
   by_cases t0:i<j.ks.length
   ·have f1:((i:Int)<(j.ks.length:Int))=True:=eq_true (by omega)
    have w1:IntKind.i64.wrap ((i:Int)+1)=((i+1:Nat):Int):=Qdf (by omega)
    generalize hA:((P.take i).map fun i=>j.ks.getD i [])=A
    generalize hB:((P.take i).map fun i=>(j.l.map Qaf).getD i J.zero)=B
    refine w_r (j_ z0 (j_ f1 (@List.length_map.{0,0}))) ?_
    refine QgT (fun k st=>∃(q:Nat) (m:Int),q≤j.ks.length∧k=j.ks.length-q∧QmG j.ks (P.take i) q m∧∃x:Nat→AV,st=⟨[x 0,x 1,x 2,x 3,x 4,x 5,.ptr (H.length+1) 0,.ptr H.length 0,.ptr (H.length+2) 0,x 9,.oslice (H.length+3) 0 j.ks.length j.ks.length 1,intD i,intD m,intD q,x 14,x 15,x 16,x 17,x 18],F (.cells (jC j)) (Qgj 0 0 [] [] []) (Qgj j.k j.n j.t A B) (.cells (Qc5 j.ks.length (P.take i)))⟩) ?_ _ _ ⟨0,-1,Nat.zero_le _,rfl,.inl ⟨rfl,fun p hp=>by omega⟩,Qao _ _ _ rfl⟩
    rintro k _ ⟨q,m,hq,rfl,hle,x,rfl⟩
    by_cases t1:q<j.ks.length
    ·have f2:((q:Int)<(j.ks.length:Int))=True:=eq_true (by omega)
     have w2:IntKind.i64.wrap ((q:Int)+1)=((q+1:Nat):Int):=Qdf (by omega)
     have hdq:=Qdw t1 (P.take i)
     obtain⟨s,hs⟩:∃s,j.ks[q]? =some s:=⟨_,List.getElem?_eq_getElem t1⟩
     have hc:∀s:Tx,(D.str s).cells= [D.str s]:=fun _=>rfl
     have next:∀ {st:St} (m':Int),QmG j.ks (P.take i) (q+1) m'→(∃x:Nat→AV,st=⟨[x 0,x 1,x 2,x 3,x 4,x 5,.ptr (H.length+1) 0,.ptr H.length 0,.ptr (H.length+2) 0,x 9,.oslice (H.length+3) 0 j.ks.length j.ks.length 1,intD i,intD m',intD ((q+1:Nat):Int),x 14,x 15,x 16,x 17,x 18],F (.cells (jC j)) (Qgj 0 0 [] [] []) (Qgj j.k j.n j.t A B) (.cells (Qc5 j.ks.length (P.take i)))⟩)→
       ∃k',k'<j.ks.length-q∧∃(q:Nat) (m:Int),q≤j.ks.length∧k'=j.ks.length-q∧QmG j.ks (P.take i) q m∧∃x:Nat→AV,st=⟨[x 0,x 1,x 2,x 3,x 4,x 5,.ptr (H.length+1) 0,.ptr H.length 0,.ptr (H.length+2) 0,x 9,.oslice (H.length+3) 0 j.ks.length j.ks.length 1,intD i,intD m,intD q,x 14,x 15,x 16,x 17,x 18],F (.cells (jC j)) (Qgj 0 0 [] [] []) (Qgj j.k j.n j.t A B) (.cells (Qc5 j.ks.length (P.take i)))⟩:=
      fun m' h1 h2=>⟨j.ks.length-(q+1),by omega,q+1,m',t1,rfl,h1,h2⟩
     cases hb:(P.take i).contains q with
     |true=>
      rw[hb]at hdq
      have hmem:q∈P.take i:=by simpa using hb
      have hL:QmG j.ks (P.take i) (q+1) m:=by
       rcases hle with⟨rfl,h⟩|⟨p0,rfl,h1,h2,h3⟩
       ·exact .inl ⟨rfl,fun p hp=>by
         rcases Nat.lt_or_ge p q with h'|h'
         ·exact h p h'
         ·obtain rfl:p=q:=by omega
          exact hmem⟩
       ·exact .inr ⟨p0,rfl,by omega,h2,fun p hp hn=>by
         rcases Nat.lt_or_ge p q with h'|h'
         ·exact h3 p h' hn
         ·obtain rfl:p=q:=by omega
          exact absurd hmem hn⟩
      generalize Qc5 j.ks.length (P.take i)=R at*
      refine w_r (j_ z0 (j_ z3 (j_ f2 (j_ w2 (j_ hdq (j_ @Nat.mul_one (@List.length_map.{0,0}))))))) ?_
      exact next m hL (Qao _ _ _ rfl)
     |false=>
      rw[hb]at hdq
      have hnm:q∉P.take i:=by simpa using hb
      rcases hle with⟨rfl,h⟩|⟨p0,rfl,h1,h2,h3⟩
      ·have hL:QmG j.ks (P.take i) (q+1) (q:Nat):= .inr ⟨q,rfl,by omega,hnm,fun p hp hn=>by
        rcases Nat.lt_or_ge p q with h'|h'
        ·exact absurd (h p h') hn
        ·obtain rfl:p=q:=by omega
         exact List.lt_irrefl _⟩
       have f3:((-1:Int)<0)=True:=eq_true (by decide)
       generalize Qc5 j.ks.length (P.take i)=R at*
       refine w_r (j_ z0 (j_ z3 (j_ f2 (j_ f3 (j_ w2 (j_ hdq (j_ @Nat.mul_one (@List.length_map.{0,0})))))))) ?_
       exact next _ hL (Qao _ _ _ rfl)
      ·have f3:((p0:Int)<0)=False:=eq_false (by omega)
       obtain⟨t,ht⟩:∃t,j.ks[p0]? =some t:=⟨_,List.getElem?_eq_getElem (by omega)⟩
       have ks1:Qct j.ks q=s:=Qqh hs
       have ks2:Qct j.ks p0=t:=Qqh ht
       have hlt:=lt_key s t
       by_cases hst:s<t
       ·rw[decide_eq_true hst]at hlt
        have hL:QmG j.ks (P.take i) (q+1) (q:Nat):= .inr ⟨q,rfl,by omega,hnm,fun p hp hn=>by
         rcases Nat.lt_or_ge p q with h'|h'
         ·have:=h3 p h' hn
          rw[ks1];rw[ks2]at this
          exact fun h4=>this (List.lt_trans h4 hst)
         ·obtain rfl:p=q:=by omega
          exact List.lt_irrefl _⟩
        generalize Qc5 j.ks.length (P.take i)=R at*
        refine w_r (j_ z0 (j_ z3 (j_ f2 (j_ f3 (j_ w2 (j_ hs (j_ ht (j_ hc (j_ hlt (j_ hdq (j_ @Nat.mul_one (@List.length_map.{0,0})))))))))))) ?_
        exact next _ hL (Qao _ _ _ rfl)
       ·rw[decide_eq_false hst]at hlt
        have hL:QmG j.ks (P.take i) (q+1) (p0:Nat):= .inr ⟨p0,rfl,by omega,h2,fun p hp hn=>by
         rcases Nat.lt_or_ge p q with h'|h'
         ·exact h3 p h' hn
         ·obtain rfl:p=q:=by omega
          rw[ks1,ks2];exact hst⟩
        generalize Qc5 j.ks.length (P.take i)=R at*
        refine w_r (j_ z0 (j_ z3 (j_ f2 (j_ f3 (j_ w2 (j_ hs (j_ ht (j_ hc (j_ hlt (j_ hdq (j_ @Nat.mul_one (@List.length_map.{0,0})))))))))))) ?_
        exact next _ hL (Qao _ _ _ rfl)
    ·obtain rfl:q=j.ks.length:=by omega
     have f2:((j.ks.length:Int)<(j.ks.length:Int))=False:=eq_false (by omega)
     have hPi:P[i]? =some P[i]:=List.getElem?_eq_getElem (by omega)
     have hPlt:=hPm P[i] (List.getElem_mem _)
     have hnot:P[i]∉P.take i:=fun hmem=>by
      obtain⟨q,hq,eq⟩:=List.mem_take_iff_getElem.1 hmem
      have hn:=Qeh j.ks
      rw[hP]at hn
      have:=(List.getElem?_inj (i:=q) (j:=i) (by omega) hn).1 (by rw[List.getElem?_eq_getElem (by omega:q<P.length),hPi,eq])
      omega
     obtain⟨p,rfl,hpn,hpm,hpl⟩:∃p:Nat,m=p∧p<j.ks.length∧p∉P.take i∧∀p',p'<j.ks.length→p'∉P.take i→¬Qct j.ks p'<Qct j.ks p:=by
      rcases hle with⟨rfl,h⟩|h
      ·exact absurd (h _ hPlt) hnot
      ·exact h
     have hp:P[i]? =some p:=by rw[←hP];exact least_is hnd t0 hpn (by rw[hP];exact hpm) (by rw[hP];exact hpl)
     have g0:((p:Int)<(j.ks.length:Int))=True:=eq_true (by omega)
     have hpn1:p+1≤j.ks.length:=hpn
     have hset:=Qqy hpn (P.take i)
     have hext:P.take i++ [p]=P.take (i+1):=by rw[List.take_add_one,hp];rfl
     rw[hext]at hset
     simp only[splice,List.length_cons,List.length_nil,Nat.zero_add,List.cons_append,List.nil_append]at hset
     have hdl:=QhZ j.ks.length (P.take i)
     obtain⟨s,hs⟩:∃s,j.ks[p]? =some s:=⟨_,List.getElem?_eq_getElem hpn⟩
     obtain⟨y,hy'⟩:∃y,j.l[p]? =some y:=⟨_,List.getElem?_eq_getElem (by omega)⟩
     have hyd:=jd y
     have hod:=jd (Qaf y)
     have e1:=Qet (fun i=>j.ks.getD i []) hp
     have e2:=Qet (fun i=>(j.l.map Qaf).getD i J.zero) hp
     have g1:j.ks.getD p []=s:=by simp[List.getD,hs]
     have g2:(j.l.map Qaf).getD p J.zero=Qaf y:=by simp[List.getD,hy']
     rw[g1,hA]at e1
     rw[g2,hB]at e2
     have ho:=fun M=>QeK n H.length M y (hy y (List.mem_of_getElem? hy')) (hyw y (List.mem_of_getElem? hy'))
     simp only[hyd,hod]at ho
     have n1:A.length=i:=by rw[←hA];simp;omega
     have n2:B.length=i:=by rw[←hB];simp;omega
     have m1:A.map D.str++ [D.str s]=(A++ [s]).map D.str:=by simp
     have m2:B.map J.d++ [D.agg [.int .i64 (Qaf y).k,.int .i64 (Qaf y).n,.str (Qaf y).t,sD (Qaf y).ks,jsD (Qaf y).l]]=(B++ [Qaf y]).map J.d:=by simp[hod]
     have q1:=headS A
     have q2:=Qop B
     have b1:(i+1)*17≤70368744177664:=by omega
     have b2:(i+1)*85≤70368744177664:=by omega
     have hc:∀s:Tx,(D.str s).cells= [D.str s]:=fun _=>rfl
     refine w_r (j_ z0 (j_ z3 (j_ s3 (j_ f2 (j_ g0 (j_ hpn1 (j_ hdl (j_ hset (j_ hll3 (j_ @Nat.mul_one (@List.length_map.{0,0}))))))))))) ?_
     generalize hR:Qc5 j.ks.length (P.take (i+1))=R at*
     (apply W_rg;focus(intro k;simp(maxSteps:=100000000) only[zz,zd,simprocAttr,z0,z2,s2,hs,hc,q1,n1,b1,m1,e1,List.length_map,hll2];(first|done|with_reducible exact rfl)))<;>(try simp only[zp,simprocAttr])
     obtain⟨A',hA'⟩:∃A',((P.take (i+1)).map fun i=>j.ks.getD i [])=A':=⟨_,rfl⟩
     rw[hA']
     refine w_2 ((ho (F (.cells (jC j)) (Qgj 0 0 [] [] []) (Qgj j.k j.n j.t A' B) (.cells R)))) ((ho (F (.cells (jC j)) (Qgj 0 0 [] [] []) (outT j.k j.n j.t A' B) (.cells R)))) (j_ z0 (j_ z2 (j_ s2 (j_ hy' (j_ hyd (j_ q2 (j_ n2 (j_ b2 (j_ m2 (j_ e2 (j_ (@List.length_map.{0,0}) hll2))))))))))) ?_
     refine w_r w1 ?_
     exact⟨j.ks.length-(i+1),by omega,i+1,t0,rfl,Qdu (by first|rw[hA',e2,hR]|rw[hA',hR]) rfl⟩
   ·obtain rfl:i=j.ks.length:=by omega
    have f1:((j.ks.length:Int)<(j.ks.length:Int))=False:=eq_false (by omega)
    have e3:P.take j.ks.length=P:=by rw[←hPl,List.take_length]
    rw[e3]
    refine w_r (j_ z0 (j_ f1 (j_ z1 (j_ z2 (j_ s1 (j_ hll1 (@List.length_map.{0,0}))))))) ?_
    refine Qad (vs:= [.d (.agg [.int .i64 j.k,.int .i64 j.n,.str j.t,sD (P.map fun i=>j.ks.getD i []),jsD (P.map fun i=>(j.l.map Qaf).getD i J.zero)])]) ?_ rfl ⟨by rw[jd];rfl,rfl⟩
    simp only[Qcc,zz,simprocAttr,z1]
  ·rw[if_neg h5]
   have hk0:=hks h5
   by_cases h4:j.k=4
   ·have c4:(j.k==4)=true:=by simpa using h4
    refine w_r (j_ k0 (j_ c4 (@List.length_map.{0,0}))) ?_
    refine QgT (fun k st=>∃i:Nat,i≤j.l.length∧k=j.l.length-i∧∃x:Nat→AV,st=⟨[x 0,x 1,x 2,x 3,x 4,x 5,.ptr (H.length+1) 0,.ptr H.length 0,.ptr (H.length+2) 0,intD i,x 10,x 11,x 12,x 13,x 14,x 15,x 16,x 17,x 18],K (Qgj 0 0 [] [] []) (outL j.k j.n j.t ((j.l.take i).map Qaf))⟩) ?_ _ _ ⟨0,Nat.zero_le _,rfl,Qao _ _ _ rfl⟩
    rintro k _ ⟨i,hi,rfl,x,rfl⟩
    by_cases t0:i<j.l.length
    ·have f1:((i:Int)<(j.l.length:Int))=True:=eq_true (by omega)
     have w1:IntKind.i64.wrap ((i:Int)+1)=((i+1:Nat):Int):=Qdf (by omega)
     obtain⟨y,hy'⟩:∃y,j.l[i]? =some y:=⟨_,List.getElem?_eq_getElem t0⟩
     have hyd:=jd y
     have hod:=jd (Qaf y)
     have e2:=Qet Qaf hy'
     have ho:=fun M=>QeK n H.length M y (hy y (List.mem_of_getElem? hy')) (hyw y (List.mem_of_getElem? hy'))
     simp only[hyd,hod]at ho
     have n2:((j.l.take i).map Qaf).length=i:=by simp;omega
     generalize(j.l.take i).map Qaf=B at*
     have q2:=Qop B
     have b2:(i+1)*85≤70368744177664:=by omega
     have m2:B.map J.d++ [D.agg [.int .i64 (Qaf y).k,.int .i64 (Qaf y).n,.str (Qaf y).t,sD (Qaf y).ks,jsD (Qaf y).l]]=(B++ [Qaf y]).map J.d:=by simp[hod]
     (iterate 7 refine w_s (j_ f1 (j_ k0 (@List.length_map.{0,0}))) ?_)
     refine w_2 ((ho (K (Qgj 0 0 [] [] []) (outL j.k j.n j.t B)))) ((ho (K (Qgj 0 0 [] [] []) (outLT j.k j.n j.t B)))) (j_ k0 (j_ k2 (j_ k4 (j_ hy' (j_ hyd (j_ q2 (j_ n2 (j_ b2 (j_ m2 (j_ (@List.length_map.{0,0}) hll2)))))))))) ?_
     refine w_r w1 ?_
     exact⟨j.l.length-(i+1),by omega,i+1,t0,rfl,Qdu (by first|rw[←e2]|rfl) rfl⟩
    ·obtain rfl:i=j.l.length:=by omega
     have f1:((j.l.length:Int)<(j.l.length:Int))=False:=eq_false (by omega)
     have f2:((0:Int)<(j.ks.length:Int))=False:=eq_false (by rw[hk0];simp)
     rw[List.take_length]
     generalize Qc5 j.ks.length []=R at*
     refine w_r (j_ k0 (j_ f1 (j_ c1 (j_ c2 (j_ e0 (j_ kf (j_ kl (j_ z0 (@List.length_map.{0,0}))))))))) ?_
     refine QgT (fun k st=>k=0∧∃x:Nat→AV,st=⟨[x 0,x 1,x 2,x 3,x 4,x 5,.ptr (H.length+1) 0,.ptr H.length 0,.ptr (H.length+2) 0,x 9,x 10,intD 0,x 12,x 13,x 14,x 15,x 16,x 17,x 18],F (.cells (jC j)) (Qgj 0 0 [] [] []) (outL j.k j.n j.t (j.l.map Qaf)) (.cells R)⟩) ?_ _ _ ⟨rfl,Qao _ _ _ rfl⟩
     rintro k _ ⟨rfl,x,rfl⟩
     refine w_r (j_ z0 (j_ f2 (j_ z1 (j_ z2 (j_ s1 (j_ hll1 (@List.length_map.{0,0}))))))) ?_
     refine Qad (vs:= [.d (.agg [.int .i64 j.k,.int .i64 j.n,.str j.t,sD [],jsD (j.l.map Qaf)])]) ?_ rfl ⟨by rw[jd];rfl,rfl⟩
     simp only[Qcc,zz,simprocAttr,z1];rfl
   ·have c4:(j.k==4)=false:=by simpa using h4
    have hl0:=hls h4 h5
    have f2:((0:Int)<(j.ks.length:Int))=False:=eq_false (by rw[hk0];simp)
    rw[hl0]
    generalize Qc5 j.ks.length []=R at*
    refine w_r (j_ k0 (j_ c4 (j_ c1 (j_ c2 (j_ e0 (j_ kf (j_ kl (@List.length_map.{0,0})))))))) ?_
    refine QgT (fun k st=>k=0∧∃x:Nat→AV,st=⟨[x 0,x 1,x 2,x 3,x 4,x 5,.ptr (H.length+1) 0,.ptr H.length 0,.ptr (H.length+2) 0,x 9,x 10,intD 0,x 12,x 13,x 14,x 15,x 16,x 17,x 18],F (.cells (jC j)) (Qgj 0 0 [] [] []) (outL j.k j.n j.t []) (.cells R)⟩) ?_ _ _ ⟨rfl,Qao _ _ _ rfl⟩
    rintro k _ ⟨rfl,x,rfl⟩
    refine w_r (j_ z0 (j_ f2 (j_ z1 (j_ z2 (j_ s1 (j_ hll1 (@List.length_map.{0,0}))))))) ?_
    refine Qad (vs:= [.d (.agg [.int .i64 j.k,.int .i64 j.n,.str j.t,sD [],jsD []])]) ?_ rfl ⟨by rw[jd];rfl,rfl⟩
    simp only[Qcc,zz,simprocAttr,z1];rfl
theorem QmM(lim:Nat)(H:Qaa)(s:Tx)(hs:s.length≤100000000000):Ev (QaH code Qaq) 67 lim [.d (.str s)] H (boolD (vB s)) H:=by
 refine Qde (F:=Qki) POK.valid ?_
 unfold Qki
 simp only
 rw[if_pos (by omega)]
def mE(s:Tx):D×AV:=(.str s,.d (.bool true))
theorem Qmy(s t:Tx):D.beq (.str s) (.str t)=decide (s=t):=by
 rw[Bool.eq_iff_iff];simp[D.beq]
theorem Qqo:∀ {rows:List Tx} {s:Tx},s∉rows→QeQ (.str s) (rows.map mE)=none
 | [],_,_=>rfl
 |t::rows,s,h=>by
  have h1:s≠t:=fun e=>h (e▸List.mem_cons_self)
  show(if D.beq (.str s) (.str t)then _ else QeQ (.str s) (rows.map mE))=none
  rw[Qmy,decide_eq_false h1,if_neg (by simp)]
  exact Qqo fun k=>h (List.mem_cons_of_mem _ k)
theorem Qnx:∀ {rows:List Tx} {s:Tx},s∈rows→QeQ (.str s) (rows.map mE)=some (.d (.bool true))
 |t::rows,s,h=>by
  show(if D.beq (.str s) (.str t)then some (.d (.bool true))else QeQ (.str s) (rows.map mE))=_
  rw[Qmy]
  by_cases h1:s=t
  ·rw[decide_eq_true h1,if_pos rfl]
  ·rw[decide_eq_false h1,if_neg (by simp)]
   rcases List.mem_cons.1 h with e|h
   ·exact absurd e h1
   ·exact Qnx h
theorem set_no:∀ {rows:List Tx} {s:Tx},s∉rows→QmW (.str s) (.d (.bool true)) (rows.map mE)=(rows++ [s]).map mE
 | [],_,_=>rfl
 |t::rows,s,h=>by
  have h1:s≠t:=fun e=>h (e▸List.mem_cons_self)
  show(if D.beq (.str s) (.str t)then _ else(.str t,.d (.bool true))::QmW (.str s) (.d (.bool true)) (rows.map mE))=_
  rw[Qmy,decide_eq_false h1,if_neg (by simp),set_no fun k=>h (List.mem_cons_of_mem _ k)]
  rfl
theorem named_ev(lim:Nat)(H:Qaa)(ks:List Tx)(hk:ks.length≤100000000000)(hs:∀s∈ks,s.length≤100000000000):Ev (QaH code Qaq) 68 lim [.d (sD ks)] H (boolD (Qbr ks)) H:=by
 refine Fn.ev ?_
 refine Qa2 (pn rfl) rfl (show code 68=some c68 from rfl) rfl ?_;simp only[List.length_cons,List.length_nil,List.cons_append,List.nil_append,simprocAttr]
 refine w_r (@List.length_map.{0,0}) ?_
 refine QgT (fun k st=>∃(i:Nat) (K:Qaa),i≤ks.length∧k=ks.length-i∧(ks.take i).all vB=true∧(ks.take i).Nodup∧K[H.length]? =some (.map .str ((ks.take i).map mE))∧∃x:Nat→AV,st=⟨[x 0,x 1,x 2,boolD false,.mapr H.length,.d (sD ks),intD ks.length,intD i,x 8,x 9,x 10],K⟩) ?_ _ _ ⟨0,_,Nat.zero_le _,rfl,rfl,List.nodup_nil,Qa3 _ _,Qao _ _ _ rfl⟩
 rintro k _ ⟨i,K,hi,rfl,ha,hnd,gK,x,rfl⟩
 by_cases t0:i<ks.length
 ·have f1:((i:Int)<(ks.length:Int))=True:=eq_true (by omega)
  have w1:IntKind.i64.wrap ((i:Int)+1)=((i+1:Nat):Int):=Qdf (by omega)
  obtain⟨s,hsx⟩:∃s,ks[i]? =some s:=⟨_,List.getElem?_eq_getElem t0⟩
  have hc:∀s:Tx,(D.str s).cells= [D.str s]:=fun _=>rfl
  have hik:∀s:Tx,QcA .str (.str s)=true:=fun _=>rfl
  have hst:=Qka hsx vB
  rw[ha,Bool.true_and]at hst
  by_cases hm:s∈ks.take i
  ·have hf:=Qnx hm
   have hno:Qbr ks=false:=by
    obtain⟨q,hq,he⟩:=List.getElem_of_mem hm
    have hq':q<i:=by simp at hq;omega
    rw[List.getElem_take]at he
    exact Qne hsx (by rw[←he];exact List.getElem?_eq_getElem _) hq'
   rw[hno]
   generalize(ks.take i).map mE=es at*
   refine w_r (j_ gK (j_ f1 (j_ hsx (j_ hc (j_ hik (j_ hf (@List.length_map.{0,0}))))))) ?_
   exact Qad rfl rfl ⟨rfl,rfl⟩
  ·have hf:=Qqo hm
   have hse:=set_no hm
   have hx:ks.take i++ [s]=ks.take (i+1):=by rw[List.take_add_one,hsx];rfl
   rw[hx]at hse
   have hn2:=QiY hsx hnd hm
   have he:=QmM H.length K s (hs s (List.mem_of_getElem? hsx))
   have hl:H.length<K.length:=(List.getElem?_eq_some_iff.1 gK).1
   have gS:∀o:AObj,(K.set H.length o)[H.length]? =some o:=fun o=>List.getElem?_set_self hl
   cases hv:vB s with
   |true=>
    rw[hv]at he hst
    obtain⟨es,hes⟩:∃es,(ks.take i).map mE=es:=⟨_,rfl⟩
    rw[hes]at gK hf hse
    (iterate 10 refine w_s (j_ gK (j_ f1 (j_ hsx (j_ hc (@List.length_map.{0,0}))))) ?_)
    refine w_1 he (j_ gK (j_ hik hf)) ?_
    refine w_r (j_ gK (j_ hik (j_ hse w1))) ?_
    exact⟨ks.length-(i+1),by omega,i+1,_,t0,rfl,hst,hn2,gS _,Qao _ _ _ rfl⟩
   |false=>
    rw[hv]at he
    have hno:Qbr ks=false:=by unfold Qbr;rw[QnH hsx hv];rfl
    rw[hno]
    obtain⟨es,hes⟩:∃es,(ks.take i).map mE=es:=⟨_,rfl⟩
    rw[hes]at gK hf hse
    (iterate 10 refine w_s (j_ gK (j_ f1 (j_ hsx (j_ hc (@List.length_map.{0,0}))))) ?_)
    refine w_1 he (j_ gK (j_ hik hf)) ?_
    refine w_r trivial ?_
    exact Qad rfl rfl ⟨rfl,rfl⟩
 ·obtain rfl:i=ks.length:=by omega
  have f1:((ks.length:Int)<(ks.length:Int))=False:=eq_false (by omega)
  rw[List.take_length]at ha hnd
  have:Qbr ks=true:=by unfold Qbr;rw[ha,decide_eq_true hnd];rfl
  rw[this]
  refine w_r (j_ f1 (@List.length_map.{0,0})) ?_
  exact Qad rfl rfl ⟨rfl,rfl⟩
set_option maxHeartbeats 1000000 in
theorem shape_ev(lim:Nat)(H:Qaa)(j:J)(hj:Sh j):Ev (QaH code Qaq) 52 lim [.d j.d] H (boolD (Qan j)) H:=by
 refine Fn.ev ?_
 refine Qa2 (pn rfl) rfl (show code 52=some c52 from rfl) rfl ?_;simp only[List.length_cons,List.length_nil,List.cons_append,List.nil_append,simprocAttr]
 obtain⟨s1,s2,s3,s4⟩:=hj
 obtain⟨K,hK⟩:∃K,H++ [AObj.cells (jC j)]=K:=⟨_,rfl⟩
 have gK:K[H.length]? =some (.cells (jC j)):=by rw[←hK];exact Qa3 _ _
 have hjd:=jd j
 have w0:IntKind.i64.wrap ((j.ks.length:Int)+(j.l.length:Int))=((j.ks.length+j.l.length:Nat):Int):=by rw[w64 (by omega) (by omega)];omega
 have eE:(((j.ks.length+j.l.length:Nat):Int)==0)=Qbj j:=by rw[eq0];exact decide_eq_decide.2 (by omega)
 have eN:=eq0 j.n 0
 have eN1:=eq0 j.n 1
 have eT:=eqT j.t []
 have hr:Qan j=if j.k=0 then Qbj j&&decide (j.n=0)&&decide (j.t= [])
  else if j.k=1 then Qbj j&&decide (j.t= [])&&(decide (j.n=0)||decide (j.n=1))
  else if j.k=2 then Qbj j&&decide (j.t= [])&&decide (-9007199254740991≤j.n)&&decide (j.n≤9007199254740991)
  else if j.k=3 then Qbj j&&decide (j.n=0)&&vB j.t
  else if j.k=4 then decide (j.ks.length=0)&&decide (j.n=0)&&decide (j.t= [])
  else if j.k=5 then decide (j.ks.length=j.l.length)&&decide (j.n=0)&&decide (j.t= [])&&Qbr j.ks
  else false:=rfl
 rw[hr]
 (iterate 2 refine w_s (j_ hjd hK) ?_)
 (iterate 4 refine w_s (j_ gK (j_ w0 (j_ eE (@List.length_map.{0,0})))) ?_)
 have k0e:=eq0 j.k 0
 have k1e:=eq0 j.k 1
 have k2e:=eq0 j.k 2
 have k3e:=eq0 j.k 3
 have k4e:=eq0 j.k 4
 have k5e:=eq0 j.k 5
 by_cases k0:j.k=0
 ·rw[if_pos k0]
  rw[decide_eq_true k0]at k0e
  generalize Qbj j=b1 at*
  generalize decide (j.n=0)=b2 at*
  generalize decide (j.t= [])=b3 at*
  cases b1<;>cases b2<;>cases b3<;>(refine w_r (j_ gK (j_ k0e (j_ eN eT))) ?_;exact Qad rfl rfl ⟨rfl,rfl⟩)
 rw[if_neg k0]
 rw[decide_eq_false k0]at k0e
 by_cases k1:j.k=1
 ·rw[if_pos k1]
  rw[decide_eq_true k1]at k1e
  generalize Qbj j=b1 at*
  generalize decide (j.n=0)=b2 at*
  generalize decide (j.n=1)=b4 at*
  generalize decide (j.t= [])=b3 at*
  cases b1<;>cases b2<;>cases b3<;>cases b4<;>(refine w_r (j_ gK (j_ k0e (j_ k1e (j_ eN (j_ eN1 eT))))) ?_;exact Qad rfl rfl ⟨rfl,rfl⟩)
 rw[if_neg k1]
 rw[decide_eq_false k1]at k1e
 by_cases k2:j.k=2
 ·rw[if_pos k2]
  rw[decide_eq_true k2]at k2e
  generalize Qbj j=b1 at*
  generalize decide (j.t= [])=b3 at*
  by_cases h2: -9007199254740991≤j.n
  ·have f2:(-9007199254740991≤j.n)=True:=eq_true h2
   rw[decide_eq_true h2]
   by_cases h4:j.n≤9007199254740991
   ·have f4:(j.n≤9007199254740991)=True:=eq_true h4
    rw[decide_eq_true h4]
    cases b1<;>cases b3<;>(refine w_r (j_ gK (j_ k0e (j_ k1e (j_ k2e (j_ f2 (j_ f4 eT)))))) ?_;exact Qad rfl rfl ⟨rfl,rfl⟩)
   ·have f4:(j.n≤9007199254740991)=False:=eq_false h4
    rw[decide_eq_false h4]
    cases b1<;>cases b3<;>(refine w_r (j_ gK (j_ k0e (j_ k1e (j_ k2e (j_ f2 (j_ f4 eT)))))) ?_;exact Qad rfl rfl ⟨rfl,rfl⟩)
  ·have f2:(-9007199254740991≤j.n)=False:=eq_false h2
   rw[decide_eq_false h2]
   generalize decide (j.n≤9007199254740991)=b4
   cases b1<;>cases b3<;>cases b4<;>(refine w_r (j_ gK (j_ k0e (j_ k1e (j_ k2e (j_ f2 eT))))) ?_;exact Qad rfl rfl ⟨rfl,rfl⟩)
 rw[if_neg k2]
 rw[decide_eq_false k2]at k2e
 by_cases k3:j.k=3
 ·rw[if_pos k3]
  rw[decide_eq_true k3]at k3e
  have he:=QmM H.length K j.t s1
  generalize Qbj j=b1 at*
  generalize decide (j.n=0)=b2 at*
  generalize vB j.t=b3 at*
  (iterate 15 refine w_s (j_ gK (j_ k0e (j_ k1e (j_ k2e k3e)))) ?_)
  cases b1<;>cases b2<;>cases b3<;>(refine w_1 he (j_ gK eN) ?_;refine w_r trivial ?_;exact Qad rfl rfl ⟨rfl,rfl⟩)
 rw[if_neg k3]
 rw[decide_eq_false k3]at k3e
 by_cases k4:j.k=4
 ·rw[if_pos k4]
  rw[decide_eq_true k4]at k4e
  have eE4:((j.ks.length:Int)==0)=decide (j.ks.length=0):=by rw[eq0];exact decide_eq_decide.2 (by omega)
  generalize decide (j.ks.length=0)=b1 at*
  generalize decide (j.n=0)=b2 at*
  generalize decide (j.t= [])=b3 at*
  cases b1<;>cases b2<;>cases b3<;>(refine w_r (j_ gK (j_ k0e (j_ k1e (j_ k2e (j_ k3e (j_ k4e (j_ eN (j_ eT (j_ eE4 (@List.length_map.{0,0})))))))))) ?_;exact Qad rfl rfl ⟨rfl,rfl⟩)
 rw[if_neg k4]
 rw[decide_eq_false k4]at k4e
 by_cases k5:j.k=5
 ·rw[if_pos k5]
  rw[decide_eq_true k5]at k5e
  have he:=named_ev H.length K j.ks s2 s4
  have eE5:((j.ks.length:Int)==(j.l.length:Int))=decide (j.ks.length=j.l.length):=by rw[eq0];exact decide_eq_decide.2 (by omega)
  generalize decide (j.ks.length=j.l.length)=b1 at*
  generalize decide (j.n=0)=b2 at*
  generalize decide (j.t= [])=b3 at*
  generalize Qbr j.ks=b4 at*
  (iterate 21 refine w_s (j_ gK (j_ k0e (j_ k1e (j_ k2e (j_ k3e (j_ k4e k5e)))))) ?_)
  cases b1<;>cases b2<;>cases b3<;>cases b4<;>(refine w_1 he (j_ gK (j_ eN (j_ eT (j_ eE5 (@List.length_map.{0,0}))))) ?_;refine w_r trivial ?_;exact Qad rfl rfl ⟨rfl,rfl⟩)
 rw[if_neg k5]
 rw[decide_eq_false k5]at k5e
 refine w_r (j_ gK (j_ k0e (j_ k1e (j_ k2e (j_ k3e (j_ k4e k5e)))))) ?_
 exact Qad rfl rfl ⟨rfl,rfl⟩
def IdxQ(l:List J)(g:J→Bool)(H:Qaa)(v:AV)(H':Qaa):Prop:=(∃r:Int,v=intD r∧decide (r≥0)=l.any g)∧H'=H
theorem idxf_ev(lim:Nat)(K:Qaa)(l:List J)(r:Nat)(g:J→Bool)(hl:l.length≤100000000000)(hc:∀y∈l,Ev (QaH code Qaq) 54 K.length [.d y.d,.ptr r 0] K (boolD (g y)) K):
  Go.Abs.Fn (QaH code Qaq) 69 lim [.d (jsD l),.func (.func 54) [.ptr r 0]] K (IdxQ l g K):=by
 refine Qa2 (pn rfl) rfl (show code 69=some c69 from rfl) rfl ?_;simp only[List.length_cons,List.length_nil,List.cons_append,List.nil_append,simprocAttr]
 refine w_r (@List.length_map.{0,0}) ?_
 refine QgT (fun k st=>∃i:Nat,i≤l.length∧k=l.length-i∧(l.take i).any g=false∧∃x:Nat→AV,st=⟨[.d (jsD l),.func (.func 54) [.ptr r 0],x 2,x 3,intD 0,intD l.length,intD i,x 7,x 8],K⟩) ?_ _ _ ⟨0,Nat.zero_le _,rfl,rfl,Qao _ _ _ rfl⟩
 rintro k _ ⟨i,hi,rfl,ha,x,rfl⟩
 by_cases t0:i<l.length
 ·have f1:((i:Int)<(l.length:Int))=True:=eq_true (by omega)
  have w1:IntKind.i64.wrap ((i:Int)+1)=((i+1:Nat):Int):=Qdf (by omega)
  obtain⟨y,hy⟩:∃y,l[i]? =some y:=⟨_,List.getElem?_eq_getElem t0⟩
  have hyd:=jd y
  have hst:=any_cut hy g
  rw[ha,Bool.false_or]at hst
  have he:=hc y (List.mem_of_getElem? hy)
  simp only[hyd]at he
  refine w_r f1 ?_
  refine Qcb ?_
  apply QdM 2;(focus(intro _;simp only[zz,simprocAttr,hy,hyd,List.length_map];(first|done|exact rfl)));simp only[List.drop_succ_cons,List.drop_zero]
  refine WO_callV (f:=54) (caps:= [.ptr r 0]) rfl ?_
  simp only[evx,List.map_cons,List.map_nil,List.contains,List.elem,List.getD_cons_succ,List.getD_cons_zero,reduceIte,Bool.false_eq_true,AV.unf,List.cons_append,List.nil_append]
  refine Ev.fn he ?_
  (apply Qek;(focus(intro _;simp only[zz,simprocAttr];(first|done|with_reducible exact rfl))))<;>(try simp only[zp,simprocAttr])
  cases hv:g y with
  |true=>
   refine w_r trivial ?_
   exact Qad rfl rfl ⟨⟨_,rfl,by rw[any_yes hy hv];exact decide_eq_true (by omega)⟩,rfl⟩
  |false=>
   rw[hv]at hst
   refine w_r w1 ?_
   exact⟨l.length-(i+1),by omega,i+1,t0,rfl,hst,Qao _ _ _ rfl⟩
 ·obtain rfl:i=l.length:=by omega
  have f1:((l.length:Int)<(l.length:Int))=False:=eq_false (by omega)
  rw[List.take_length]at ha
  refine w_r f1 ?_
  exact Qad rfl rfl ⟨⟨_,rfl,by rw[ha];rfl⟩,rfl⟩
theorem has_ev(lim:Nat)(K:Qaa)(l:List J)(r:Nat)(g:J→Bool)(hl:l.length≤100000000000)(hc:∀y∈l,Ev (QaH code Qaq) 54 K.length [.d y.d,.ptr r 0] K (boolD (g y)) K):
  Ev (QaH code Qaq) 53 lim [.d (jsD l),.func (.func 54) [.ptr r 0]] K (boolD (l.any g)) K:=by
 refine Fn.ev ?_
 refine Qa2 (pn rfl) rfl (show code 53=some c53 from rfl) rfl ?_;simp only[List.length_cons,List.length_nil,List.cons_append,List.nil_append,simprocAttr]
 obtain⟨_,K',he,⟨q,rfl,hq⟩,e'⟩:=Qk8 (idxf_ev K.length K l r g hl hc)
 rw[e']at he
 (iterate 3 refine w_s trivial ?_)
 refine w_1 he hq ?_
 refine w_r trivial ?_
 exact Qad rfl rfl ⟨rfl,rfl⟩
theorem not_any(l:List J)(f:J→Bool):(!(l.any fun x=> !f x))=l.all f:=by
 induction l with
 |nil=>rfl
 |cons a l ih=>rw[List.any_cons,List.all_cons,←ih];cases f a<;>simp
mutual
theorem Qnr:∀(n:Nat) (lim:Nat) (H:Qaa) (j:J),n≤1000→wt j≤100000000000→Ev (QaH code Qaq) 34 lim [.d j.d,intD n] H (boolD (goodB n j)) H
 |0,lim,H,j,_,_=>by
  refine Fn.ev ?_
  refine Qa2 (pn rfl) rfl (show code 34=some c34 from rfl) rfl ?_;simp only[List.length_cons,List.length_nil,List.cons_append,List.nil_append,simprocAttr]
  have hjd:=jd j
  obtain⟨J',hJ⟩:∃J',H++ [AObj.cells (jC j)]=J':=⟨_,rfl⟩
  obtain⟨K,hK⟩:∃K,J'++ [AObj.cells [intD (0:Nat)]]=K:=⟨_,rfl⟩
  have gK2:K[J'.length]? =some (.cells [.d (.int .i64 (0:Nat))]):=by rw[←hK];exact Qa3 _ _
  have f0:(((0:Nat):Int)>0)=False:=eq_false (by omega)
  (iterate 2 refine w_s (j_ hjd (j_ hJ hK)) ?_)
  refine w_r (j_ gK2 f0) ?_
  exact Qad rfl rfl ⟨rfl,rfl⟩
 |n+1,lim,H,j,hn,hj=>by
  refine Fn.ev ?_
  refine Qa2 (pn rfl) rfl (show code 34=some c34 from rfl) rfl ?_;simp only[List.length_cons,List.length_nil,List.cons_append,List.nil_append,simprocAttr]
  have hjd:=jd j
  obtain⟨J',hJ⟩:∃J',H++ [AObj.cells (jC j)]=J':=⟨_,rfl⟩
  have gJ:J'[H.length]? =some (.cells (jC j)):=by rw[←hJ];exact Qa3 _ _
  obtain⟨K,hK⟩:∃K,J'++ [AObj.cells [intD (n+1:Nat)]]=K:=⟨_,rfl⟩
  have gK:K[H.length]? =some (.cells (jC j)):=by rw[←hK];exact QjY _ gJ
  have gK2:K[J'.length]? =some (.cells [.d (.int .i64 (n+1:Nat))]):=by rw[←hK];exact Qa3 _ _
  have f0:(((n+1:Nat):Int)>0)=True:=eq_true (by omega)
  have he:=shape_ev H.length K j (sh_of hj)
  simp only[hjd]at he
  have hr:goodB (n+1) j=(Qan j&&j.l.all (goodB n)):=rfl
  have hall:=not_any j.l (goodB n)
  have hg:=has_ev H.length K j.l J'.length (fun x=> !goodB n x) (sh_of hj).2.2.1 fun y hy=>by
   have hd':wt y≤100000000000:=by have:=Qga hy;omega
   exact inner_ev n K.length K y J'.length (by omega) hd' gK2
  (iterate 2 refine w_s (j_ hjd (j_ hJ hK)) ?_)
  (iterate 1 refine w_s trivial ?_)
  rw[hr]
  cases hs:Qan j with
  |false=>
   rw[hs]at he
   refine w_1 he (j_ gK (j_ gK2 f0)) ?_
   refine w_r trivial ?_
   exact Qad rfl rfl ⟨rfl,rfl⟩
  |true=>
   rw[hs]at he
   rw[←hall]
   generalize(j.l.any fun x=> !goodB n x)=b at*
   refine w_2 he hg (j_ gK (j_ gK2 f0)) ?_
   refine w_r trivial ?_
   exact Qad rfl rfl ⟨rfl,rfl⟩
theorem inner_ev:∀(n:Nat) (lim:Nat) (H:Qaa) (j:J) (r:Nat),n≤1000→wt j≤100000000000→H[r]? =some (.cells [.d (.int .i64 (n+1:Nat))])→Ev (QaH code Qaq) 54 lim [.d j.d,.ptr r 0] H (boolD (!goodB n j)) H
 |n,lim,H,j,r,hn,hj,gr=>by
  refine Fn.ev ?_
  refine Qa2 (pn rfl) rfl (show code 54=some c54 from rfl) rfl ?_;simp only[List.length_cons,List.length_nil,List.cons_append,List.nil_append,simprocAttr]
  have hjd:=jd j
  obtain⟨K,hK⟩:∃K,H++ [AObj.cells (jC j)]=K:=⟨_,rfl⟩
  have gK:K[H.length]? =some (.cells (jC j)):=by rw[←hK];exact Qa3 _ _
  have gK2:K[r]? =some (.cells [.d (.int .i64 (n+1:Nat))]):=by rw[←hK];exact QjY _ gr
  have w2:IntKind.i64.wrap (((n+1:Nat):Int)-1)=(n:Int):=by rw[w64 (by omega) (by omega)];omega
  have he:=Qnr n H.length K j hn hj
  simp only[hjd]at he
  (iterate 2 refine w_s (j_ hjd hK) ?_)
  (iterate 1 refine w_s trivial ?_)
  refine w_1 he (j_ gK (j_ gK2 w2)) ?_
  refine w_r trivial ?_
  exact Qad rfl rfl ⟨rfl,rfl⟩
end
theorem Good_ev(lim:Nat)(H:Qaa)(j:J)(hj:wt j≤100000000000):Ev (QaH code Qaq) 20 lim [.d j.d] H (boolD (goodB 12 j)) H:=by
 refine Fn.ev ?_
 refine Qa2 (pn rfl) rfl (show code 20=some c20 from rfl) rfl ?_;simp only[List.length_cons,List.length_nil,List.cons_append,List.nil_append,simprocAttr]
 have hjd:=jd j
 obtain⟨K,hK⟩:∃K,H++ [AObj.cells (jC j)]=K:=⟨_,rfl⟩
 have gK:K[H.length]? =some (.cells (jC j)):=by rw[←hK];exact Qa3 _ _
 have he:Ev (QaH code Qaq) 34 H.length [.d j.d,intD 12] K (boolD (goodB 12 j)) K:=Qnr 12 H.length K j (by omega) hj
 simp only[hjd]at he
 (iterate 2 refine w_s (j_ hjd hK) ?_)
 (iterate 1 refine w_s trivial ?_)
 refine w_1 he gK ?_
 refine w_r trivial ?_
 exact Qad rfl rfl ⟨rfl,rfl⟩
def Qgk(j:J):J:=if goodB 12 j then Qaf j else J.zero
def Qqw:Except Nat Tx→AV
 |.ok e=> .tuple [.d (.slice (e.map byteD)),intD 0]
 |.error c=> .tuple [.d (.slice []),intD c]
theorem Qip(lim:Nat)(H:Qaa)(j:J)(hw:wt j≤100000000000):Ev (QaH code Qaq) 15 lim [.d j.d] H (.d (Qgk j).d) H:=by
 refine Fn.ev ?_
 refine Qa2 (pn rfl) rfl (show code 15=some c15 from rfl) rfl ?_;simp only[List.length_cons,List.length_nil,List.cons_append,List.nil_append,simprocAttr]
 have hjd:=jd j
 obtain⟨K,kk,g1,g2,s1,s2⟩:∃K:AObj→Qaa,(∀o,H++ [AObj.cells (jC j)]++ [o]=K o)∧(∀o,(K o)[H.length]? =some (.cells (jC j)))∧(∀o,(K o)[H.length+1]? =some o)∧(H++ [AObj.cells (jC j)]).length=H.length+1∧(∀o o',(K o).set (H.length+1) o'=K o'):=
  ⟨fun o=>H++ [AObj.cells (jC j)]++ [o],fun _=>rfl,fun o=>by simp,fun o=>by simp,by simp,fun o o'=>by simp⟩
 have hll:H.length≤H.length+1:=by omega
 have hg:=QnI H.length (K zO) j hw
 simp only[hjd]at hg
 unfold Qgk
 (iterate 2 refine w_s (j_ hjd (j_ kk s1)) ?_)
 cases hgo:goodB 12 j with
 |false=>
  rw[hgo]at hg
  refine w_r g1 ?_
  refine w_1 hg g1 ?_
  refine w_r (j_ g2 (j_ s2 hll)) ?_
  refine Qad (vs:= [.d J.zero.d]) ?_ rfl ⟨rfl,rfl⟩
  rw[jd]
  simp only[Qcc,zz,simprocAttr,g2];rfl
 |true=>
  rw[hgo]at hg
  have ho:=QeK 12 H.length (K zO) j (Qfj hgo) hw
  simp only[hjd]at ho
  have hod:=jd (Qaf j)
  rw[hod]at ho
  refine w_r g1 ?_
  refine w_1 hg g1 ?_
  refine w_r (j_ g1 g2) ?_
  refine w_1 ho (j_ g1 (j_ g2 (j_ s2 hll))) ?_
  refine w_r trivial ?_
  refine Qad (vs:= [.d (Qaf j).d]) ?_ rfl ⟨rfl,rfl⟩
  rw[hod]
  simp only[Qcc,zz,simprocAttr,g2]
theorem toB_ne{s:Tx}(h:s≠ []):toB s= .fslice (s.map byteD):=by
 cases s with
 |nil=>exact absurd rfl h
 |cons c s=>rfl
abbrev bF(b:Tx):AV:= .fslice (b.map byteD)
theorem bool_ev(lim:Nat)(H:Qaa)(b:Tx)(t:Bool)(hb:b.length≤10000000000000):Ev (QaH code Qaq) 64 lim [bF b,boolD t] H (bF (b++(if t=true then [116,114,117,101]else [102,97,108,115,101]))) H:=by
 refine Fn.ev ?_
 refine Qa2 (pn rfl) rfl (show code 64=some c64 from rfl) rfl ?_;simp only[List.length_cons,List.length_nil,List.cons_append,List.nil_append,simprocAttr]
 have hz:=Qai b
 have n1:(b.length+(0+1+1+1+1))*2≤70368744177664:=by omega
 have n2:(b.length+(0+1+1+1+1+1))*2≤70368744177664:=by omega
 cases t with
 |true=>
  refine w_r (j_ hz (j_ n1 (@List.length_map.{0,0}))) ?_
  exact Qad (vs:= [bF (b++ [116,114,117,101])]) (by simp only[Qcc,zz,simprocAttr];simp[bF]) rfl ⟨rfl,rfl⟩
 |false=>
  refine w_r (j_ hz (j_ n2 (@List.length_map.{0,0}))) ?_
  exact Qad (vs:= [bF (b++ [102,97,108,115,101])]) (by simp only[Qcc,zz,simprocAttr];simp[bF]) rfl ⟨rfl,rfl⟩
theorem QnF(lim:Nat)(H:Qaa)(b:Tx)(t:Bool)(hb:b.length≤10000000000000):Ev (QaH code Qaq) 45 lim [bF b,boolD t] H (bF (b++(if t=true then [116,114,117,101]else [102,97,108,115,101]))) H:=by
 refine Fn.ev ?_
 refine Qa2 (pn rfl) rfl (show code 45=some c45 from rfl) rfl ?_;simp only[List.length_cons,List.length_nil,List.cons_append,List.nil_append,simprocAttr]
 have h:=bool_ev H.length H b t hb
 refine w_r trivial ?_
 refine w_1 h trivial ?_
 refine w_r trivial ?_
 exact Qad (vs:= [bF (b++_)]) rfl rfl ⟨rfl,rfl⟩
theorem l10_mul(x:Nat)(h:x<1000000):Qba .mul .i64 (x:Int) 78913=some (.int .i64 ((x*78913:Nat):Int)):=by
 simp only[Qba]
 rw[show((x:Int)*78913)=((x*78913:Nat):Int) by omega,w64n _ (by omega)]
theorem l10_shr(x:Nat):QbQ .shr .i64 ((x*78913:Nat):Int) 18=some (.int .i64 ((x*78913/262144:Nat):Int)):=by
 unfold QbQ
 rw[if_neg (by decide)]
 show some (D.int .i64 (Int.fdiv ((x*78913:Nat):Int) (2^18)))=_
 rw[Int.fdiv_eq_ediv_of_nonneg _ (by decide)]
 rfl
theorem l10_ev(lim:Nat)(H:Qaa)(x:Nat)(h:x≤64):Ev (QaH code Qaq) 101 lim [intD x] H (intD ((Lib.l10 x:Nat):Int)) H:=by
 refine Fn.ev ?_
 refine Qa2 (pn rfl) rfl (show code 101=some c101 from rfl) rfl ?_;simp only[List.length_cons,List.length_nil,List.cons_append,List.nil_append,simprocAttr]
 have f1:=l10_mul x (by omega)
 unfold Lib.l10
 refine w_r (j_ f1 @l10_shr) ?_
 exact Qad rfl rfl ⟨rfl,rfl⟩
theorem b2_ev(lim:Nat)(H:Qaa)(t:Bool):Ev (QaH code Qaq) 102 lim [boolD t] H (intD (if t=true then 1 else 0)) H:=by
 refine Fn.ev ?_
 refine Qa2 (pn rfl) rfl (show code 102=some c102 from rfl) rfl ?_;simp only[List.length_cons,List.length_nil,List.cons_append,List.nil_append,simprocAttr]
 cases t<;>(refine w_r trivial ?_;exact Qad rfl rfl ⟨rfl,rfl⟩)
theorem bitLen_le{u:Nat}(h:u<18446744073709551616):Lib.bitLen u≤64:=Lib.bitLen_le u 64 (Nat.le_refl _) h
theorem pow_at{i:Nat}(h:i<20):tab3[i]? =some (.int .u64 ((10^i:Nat):Int)):=by
 unfold tab3
 rw[List.getElem?_map,List.getElem?_range h];rfl
theorem many_ev(lim:Nat)(H:Qaa)(u:Nat)(h1:1≤u)(h2:u<18446744073709551616):Ev (QaH code Qaq) 93 lim [.d (.int .u64 u)] H (intD (Lib.nDigits u)) H:=by
 refine Fn.ev ?_
 refine Qa2 (pn rfl) rfl (show code 93=some c93 from rfl) rfl ?_;simp only[List.length_cons,List.length_nil,List.cons_append,List.nil_append,simprocAttr]
 have hq:=Lib.numDigits_eq u h1 h2
 have hb:=bitLen_le h2
 have a1:Ev (QaH code Qaq) 91 H.length [.d (.int .u64 u)] H (intD ((Lib.bitLen u:Nat):Int)) H:=Qde (F:=Qi4) POK.len (by
  unfold Qi4
  simp only
  rw[if_pos (by omega)];rfl)
 have a2:=l10_ev H.length H (Lib.bitLen u) hb
 have hp:=pow_at (i:=Lib.l10 (Lib.bitLen u)) (by omega)
 generalize Lib.l10 (Lib.bitLen u)=x at*
 obtain⟨hq,hx⟩:=hq
 rw[←hq]
 have hx':=hx
 have a3:=b2_ev H.length H (decide (10^x≤u))
 have f1:decide ((u:Int)≥((10^x:Nat):Int))=decide (10^x≤u):=decide_eq_decide.mpr (by omega)
 refine w_r trivial ?_
 refine w_2 a1 a2 trivial ?_
 have hi:(0:Int)≤(x:Int)∧(x:Int)<(20:Int):=by omega
 have w1:IntKind.i64.wrap ((x:Int)+(if decide (10^x≤u)=true then 1 else 0))=((x+(if 10^x≤u then 1 else 0):Nat):Int):=by
  rw[w64 (by split<;>omega) (by split<;>omega)]
  by_cases h:10^x≤u<;>simp[h]
 refine Qlz ?_
 have hp':(List.drop (x*1) tab3)[0]? =some (.int .u64 ((10^x:Nat):Int)):=by rw[Nat.mul_one,List.getElem?_drop];exact hp
 clear hp hq
 generalize 10^x=p at*
 have f2:((u:Int)≥(p:Int))=(p≤u):=propext (by omega)
 by_cases hpu:p≤u
 ·have f3:((u:Int)≥(p:Int))=True:=eq_true (by omega)
  simp only[hpu,decide_true,if_true]at a3 w1⊢
  refine w_1 a3 (j_ hp' (j_ hi (j_ f3 w1))) ?_
  refine w_r trivial ?_
  exact Qad rfl rfl ⟨rfl,rfl⟩
 ·have f3:((u:Int)≥(p:Int))=False:=eq_false (by omega)
  simp only[hpu,decide_false,Bool.false_eq_true,if_false]at a3 w1⊢
  refine w_1 a3 (j_ hp' (j_ hi (j_ f3 w1))) ?_
  refine w_r trivial ?_
  exact Qad rfl rfl ⟨rfl,rfl⟩
theorem Qpd{n:Nat}(h:n<100):QdX n=Lib.decDigits n:=by
 unfold QdX
 split
 ·rename_i h1;rw[Lib.decDigits_one h1]
 ·rename_i h1;rw[Lib.decDigits_two h1 h]
theorem QoX(lim:Nat)(H:Qaa)(b:Tx)(u:Nat)(h2:u<18446744073709551616)(hb:b.length≤10000000000000):Ev (QaH code Qaq) 77 lim [bF b,.d (.int .u64 u),.d (.int .i64 10)] H (bF (b++Lib.decDigits u)) H:=by
 refine Fn.ev ?_
 refine Qa2 (pn rfl) rfl (show code 77=some c77 from rfl) rfl ?_;simp only[List.length_cons,List.length_nil,List.cons_append,List.nil_append,simprocAttr]
 have hz:=Qai b
 by_cases hs:u<100
 ·have f1:((u:Int)<100)=True:=eq_true (by omega)
  have w1:IntKind.i64.wrap (u:Int)=(u:Int):=w64 (by omega) (by omega)
  have hl:(QdX u).length≤2:=by unfold QdX;split<;>simp
  have a1:Ev (QaH code Qaq) 92 H.length [.d (.int .i64 u)] H (.d (.str (QdX u))) H:=Qde (F:=QiH) POK.small (by
   unfold QiH
   simp only
   rw[if_pos (by omega)];simp)
  have n1:(b.length+(QdX u).length)*2≤70368744177664:=by omega
  rw[←Qpd hs]
  generalize QdX u=t at*
  refine w_r f1 ?_
  have hz2:=Qai t
  refine w_1 a1 (j_ w1 (j_ hz (j_ hz2 (j_ n1 (@List.length_map.{0,0}))))) ?_
  refine w_r trivial ?_
  exact Qad (vs:= [bF (b++t)]) (by simp only[Qcc,zz,simprocAttr];simp[bF]) rfl ⟨rfl,rfl⟩
 ·have f1:((u:Int)<100)=False:=eq_false (by omega)
  (iterate 12 refine w_s f1 ?_)
  generalize hZ:([AV.d (D.int IntKind.u8 0),AV.d (D.int IntKind.u8 0),AV.d (D.int IntKind.u8 0),AV.d (D.int IntKind.u8 0),AV.d (D.int IntKind.u8 0),AV.d (D.int IntKind.u8 0),AV.d (D.int IntKind.u8 0),AV.d (D.int IntKind.u8 0),AV.d (D.int IntKind.u8 0),AV.d (D.int IntKind.u8 0),AV.d (D.int IntKind.u8 0),AV.d (D.int IntKind.u8 0),AV.d (D.int IntKind.u8 0),AV.d (D.int IntKind.u8 0),AV.d (D.int IntKind.u8 0),AV.d (D.int IntKind.u8 0),AV.d (D.int IntKind.u8 0),AV.d (D.int IntKind.u8 0),AV.d (D.int IntKind.u8 0),AV.d (D.int IntKind.u8 0),AV.d (D.int IntKind.u8 0),AV.d (D.int IntKind.u8 0),AV.d (D.int IntKind.u8 0),AV.d (D.int IntKind.u8 0)]:List AV)=Z
  have hZl:Z.length=24:=by rw[←hZ];rfl
  have hZr:Z=List.replicate 24 (AV.d (.int .u8 0)):=by rw[←hZ];rfl
  clear hZ
  have hn:Lib.nDigits u≤20:=Qes 19 u (by omega)
  have hdl:=Lib.decDigits_length u
  have a1:=many_ev H.length (H++ [.cells Z]) u (by omega) h2
  have g1:(H++ [AObj.cells Z])[H.length]? =some (.cells Z):=by simp
  generalize hN:Lib.nDigits u=N at*
  generalize hW:splice Z 0 ((Lib.decDigits u).map fun b=>AV.d (byteD b))=W
  have hO:(H++ [AObj.cells Z]).set H.length (.cells W)=H++ [.cells W]:=by simp
  have a2:Ev (QaH code Qaq) 94 H.length [.oslice H.length 0 N 24 1,.d (.int .u64 u)] (H++ [.cells Z]) (.tuple []) (H++ [.cells W]):=Qde (F:=fbF) POK.fb (by
   unfold fbF
   simp only[g1]
   rw[if_pos (by
    refine⟨Nat.le_refl _,by omega,by omega,by simp[hN],by omega,by omega, ?_⟩
    rw[hZr,List.take_replicate,Nat.min_eq_left (by omega)]
    exact AV.beqs_self _),Int.toNat_natCast,hW,hO])
  generalize hX:Lib.decDigits u=X at*
  have hWl:W.length=24:=by rw[←hW];simp[splice,hZl];omega
  have m1:Qgu (H++ [.cells Z]) H.length=24:=by simp[Qgu,hZl]
  have m2:Qgu (H++ [.cells W]) H.length=24:=by simp[Qgu,hWl]
  have g2:(H++ [AObj.cells W])[H.length]? =some (.cells W):=by simp
  have hc:chunks 1 false N W=some (X.map byteD):=by rw[←hW,←hdl];have:=Qlp X (Z.drop X.length);rw[List.map_map]at this;simpa[splice,Function.comp_def]using this
  have m3:((N:Int)-0).toNat=N:=by omega
  have l1:N*1≤W.length:=by omega
  have hz2:=Qai X
  have n1:(b.length+X.length)*2≤70368744177664:=by omega
  have q1:(0:Int)≤(N:Int)∧(N:Int)≤24:=by omega
  refine Qlz ?_
  refine w_1 a1 trivial ?_
  refine Qlz ?_
  refine w_1 a2 (j_ m1 (j_ q1 m3)) ?_
  refine Qlz ?_
  (apply W_rg;focus(intro k;simp(maxSteps:=100000000) only[zz,zd,simprocAttr,m2,m3,l1,q1,g2,hc,hz,hz2,n1,List.length_map];(first|done|with_reducible exact rfl)))<;>(try simp only[zp,simprocAttr])
  refine w_r trivial ?_
  exact Qad (vs:= [bF (b++X)]) (by simp only[Qcc,zz,simprocAttr];simp[bF]) rfl ⟨rfl,rfl⟩
theorem neg_u64(n:Int)(h1: -9223372036854775808≤n)(h:n<0):IntKind.u64.wrap (0-IntKind.u64.wrap n)=((n.natAbs:Nat):Int):=by
 simp only[IntKind.wrap,IntKind.bits,IntKind.signed]
 simp
 omega
theorem int_ev(lim:Nat)(H:Qaa)(b:Tx)(n:Int)(h1: -9007199254740991≤n)(h2:n≤9007199254740991)(hb:b.length+1≤10000000000000):Ev (QaH code Qaq) 65 lim [bF b,.d (.int .i64 n),.d (.int .i64 10)] H (bF (b++Lib.itoa n)) H:=by
 refine Fn.ev ?_
 refine Qa2 (pn rfl) rfl (show code 65=some c65 from rfl) rfl ?_;simp only[List.length_cons,List.length_nil,List.cons_append,List.nil_append,simprocAttr]
 have hz:=Qai b
 unfold Lib.itoa
 by_cases h:n<0
 ·have f1:(n<0)=True:=eq_true h
  have w1:=neg_u64 n (by omega) h
  have n1:(b.length+(0+1))*2≤70368744177664:=by omega
  have a1:=QoX H.length H (b++ [45]) n.natAbs (by omega) (by simp;omega)
  have ee:bF (b++ [45])= .fslice (b.map byteD++ [D.int .u8 45]):=by simp[bF,byteD]
  rw[ee]at a1
  rw[if_pos h]
  refine w_r (j_ f1 (j_ w1 (j_ hz (j_ n1 (@List.length_map.{0,0}))))) ?_
  refine w_1 a1 trivial ?_
  refine w_r trivial ?_
  exact Qad (vs:= [bF (b++ [45]++Lib.decDigits n.natAbs)]) rfl rfl ⟨by simp,rfl⟩
 ·have f1:(n<0)=False:=eq_false h
  have w1:IntKind.u64.wrap n=((n.toNat:Nat):Int):=by
   simp only[IntKind.wrap,IntKind.bits,IntKind.signed];simp;omega
  have a1:=QoX H.length H b n.toNat (by omega) (by omega)
  rw[if_neg h]
  refine w_r (j_ f1 w1) ?_
  refine w_1 a1 trivial ?_
  refine w_r trivial ?_
  exact Qad (vs:= [bF (b++_)]) rfl rfl ⟨rfl,rfl⟩
theorem intA_ev(lim:Nat)(H:Qaa)(b:Tx)(n:Int)(h1: -9007199254740991≤n)(h2:n≤9007199254740991)(hb:b.length+1≤10000000000000):Ev (QaH code Qaq) 46 lim [bF b,.d (.int .i64 n),.d (.int .i64 10)] H (bF (b++Lib.itoa n)) H:=by
 refine Fn.ev ?_
 refine Qa2 (pn rfl) rfl (show code 46=some c46 from rfl) rfl ?_;simp only[List.length_cons,List.length_nil,List.cons_append,List.nil_append,simprocAttr]
 have h:=int_ev H.length H b n h1 h2 hb
 refine w_r trivial ?_
 refine w_1 h trivial ?_
 refine w_r trivial ?_
 exact Qad (vs:= [bF (b++_)]) rfl rfl ⟨rfl,rfl⟩
theorem shr4(c:Nat):QbQ .shr .u8 (c:Int) 4=some (.int .u8 ((c/16:Nat):Int)):=by
 unfold QbQ
 rw[if_neg (by decide)]
 show some (D.int .u8 (Int.fdiv (c:Int) (2^4)))=_
 rw[Int.fdiv_eq_ediv_of_nonneg _ (by decide)]
 rfl
theorem and15u(b:Nat)(hb:b<256):Qba .and .u8 (b:Int) 15=some (.int .u8 ((b % 16:Nat):Int)):=by
 have:=QoM .u8 b 15
 rw[show IntKind.u8.bits=8 from rfl,Nat.mod_eq_of_lt (a:=b) (show b<2^8 by omega),Nat.mod_eq_of_lt (a:=15) (show 15<2^8 by omega),Nat.and_two_pow_sub_one_eq_mod b 4,u8w _ (by omega)]at this
 exact this
set_option maxHeartbeats 1000000 in
theorem QjI(lim:Nat)(H:Qaa)(b s:Tx)(hb:b.length≤10000000000000)(hs:s.length≤100000000000):Ev (QaH code Qaq) 47 lim [bF b,.d (.str s)] H (bF (b++QaK s)) H:=by
 refine Fn.ev ?_
 refine Qa2 (pn rfl) rfl (show code 47=some c47 from rfl) rfl ?_;simp only[List.length_cons,List.length_nil,List.cons_append,List.nil_append,simprocAttr]
 have hz:=Qai b
 have n0:(b.length+(0+1))*2≤70368744177664:=by omega
 refine w_r (j_ hz (j_ n0 (@List.length_map.{0,0}))) ?_
 refine QgT (fun k st=>∃(i:Nat) (T:List D),i≤s.length∧k=s.length-i∧T=(b++34::(s.take i).flatMap Qb4).map byteD∧∃x:Nat→AV,st=⟨[.fslice T,.d (.str s),x 2,x 3,x 4,x 5,x 6,x 7,x 8,x 9,.fslice [],intD s.length,intD i,x 13,x 14,x 15,x 16,x 17],H⟩) ?_ _ _ ⟨0,_,Nat.zero_le _,rfl,by simp[byteD],Qao _ _ _ rfl⟩
 rintro k _ ⟨i,T,hi,rfl,hT,x,rfl⟩
 have hfl:=Qj0 (s.take i)
 have htl:(s.take i).length≤100000000000:=by simp;omega
 have hTz:Qa9 1 T=true:=by rw[hT];exact Qai _
 have hTl:T.length≤11000000000000:=by rw[hT,List.length_map,List.length_append,List.length_cons];omega
 by_cases t0:i<s.length
 ·have f1:((i:Int)<(s.length:Int))=True:=eq_true (by omega)
  have w1:IntKind.i64.wrap ((i:Int)+1)=((i+1:Nat):Int):=Qdf (by omega)
  obtain⟨c,hc⟩:∃c,s[i]? =some c:=⟨_,List.getElem?_eq_getElem t0⟩
  have hcl:=c.toNat_lt
  have hx:=Qqn hc
  have next:∀ {st:St},(∃x:Nat→AV,st=⟨[.fslice (T++(Qb4 c).map byteD),.d (.str s),x 2,x 3,x 4,x 5,x 6,x 7,x 8,x 9,.fslice [],intD s.length,intD ((i+1:Nat):Int),x 13,x 14,x 15,x 16,x 17],H⟩)→
    ∃m,m<s.length-i∧∃(i:Nat) (T:List D),i≤s.length∧m=s.length-i∧T=(b++34::(s.take i).flatMap Qb4).map byteD∧∃x:Nat→AV,st=⟨[.fslice T,.d (.str s),x 2,x 3,x 4,x 5,x 6,x 7,x 8,x 9,.fslice [],intD s.length,intD i,x 13,x 14,x 15,x 16,x 17],H⟩:=
   fun h=>⟨s.length-(i+1),by omega,i+1,_,t0,rfl,by rw[hT,←hx];simp,h⟩
  have n1:(T.length+(0+1))*2≤70368744177664:=by omega
  have n2:(T.length+(0+1+1))*2≤70368744177664:=by omega
  have n6:(T.length+(0+1+1+1+1+1+1))*2≤70368744177664:=by omega
  clear hT hfl htl hx
  by_cases k1:c=34
  ·have c1:=QiA (n:=34) k1 rfl
   have e:Qb4 c= [92,c]:=by unfold Qb4;rw[if_pos (.inl k1)]
   rw[e]at next
   refine w_r (j_ f1 (j_ hc (j_ @byteD.eq_1 (j_ hTz (j_ w1 (j_ c1 n2)))))) ?_
   exact next (Qao _ _ _ rfl)
  have c1:=Qir (n:=34) k1 rfl
  by_cases k2:c=92
  ·have c2:=QiA (n:=92) k2 rfl
   have e:Qb4 c= [92,c]:=by unfold Qb4;rw[if_pos (.inr k2)]
   rw[e]at next
   refine w_r (j_ f1 (j_ hc (j_ @byteD.eq_1 (j_ hTz (j_ w1 (j_ c1 (j_ c2 n2))))))) ?_
   exact next (Qao _ _ _ rfl)
  have c2:=Qir (n:=92) k2 rfl
  have hne:¬(c=34∨c=92):=fun h=>h.elim k1 k2
  by_cases k3:c=8
  ·have c3:=QiA (n:=8) k3 rfl
   have e:Qb4 c= [92,98]:=by unfold Qb4;rw[if_neg hne,if_pos k3]
   rw[e]at next
   refine w_r (j_ f1 (j_ hc (j_ @byteD.eq_1 (j_ hTz (j_ w1 (j_ c1 (j_ c2 (j_ c3 n2)))))))) ?_
   exact next (Qao _ _ _ rfl)
  have c3:=Qir (n:=8) k3 rfl
  by_cases k4:c=9
  ·have c4:=QiA (n:=9) k4 rfl
   have e:Qb4 c= [92,116]:=by unfold Qb4;rw[if_neg hne,if_neg k3,if_pos k4]
   rw[e]at next
   refine w_r (j_ f1 (j_ hc (j_ @byteD.eq_1 (j_ hTz (j_ w1 (j_ c1 (j_ c2 (j_ c3 (j_ c4 n2))))))))) ?_
   exact next (Qao _ _ _ rfl)
  have c4:=Qir (n:=9) k4 rfl
  by_cases k5:c=10
  ·have c5:=QiA (n:=10) k5 rfl
   have e:Qb4 c= [92,110]:=by unfold Qb4;rw[if_neg hne,if_neg k3,if_neg k4,if_pos k5]
   rw[e]at next
   refine w_r (j_ f1 (j_ hc (j_ @byteD.eq_1 (j_ hTz (j_ w1 (j_ c1 (j_ c2 (j_ c3 (j_ c4 (j_ c5 n2)))))))))) ?_
   exact next (Qao _ _ _ rfl)
  have c5:=Qir (n:=10) k5 rfl
  by_cases k6:c=12
  ·have c6:=QiA (n:=12) k6 rfl
   have e:Qb4 c= [92,102]:=by unfold Qb4;rw[if_neg hne,if_neg k3,if_neg k4,if_neg k5,if_pos k6]
   rw[e]at next
   refine w_r (j_ f1 (j_ hc (j_ @byteD.eq_1 (j_ hTz (j_ w1 (j_ c1 (j_ c2 (j_ c3 (j_ c4 (j_ c5 (j_ c6 n2))))))))))) ?_
   exact next (Qao _ _ _ rfl)
  have c6:=Qir (n:=12) k6 rfl
  by_cases k7:c=13
  ·have c7:=QiA (n:=13) k7 rfl
   have e:Qb4 c= [92,114]:=by unfold Qb4;rw[if_neg hne,if_neg k3,if_neg k4,if_neg k5,if_neg k6,if_pos k7]
   rw[e]at next
   refine w_r (j_ f1 (j_ hc (j_ @byteD.eq_1 (j_ hTz (j_ w1 (j_ c1 (j_ c2 (j_ c3 (j_ c4 (j_ c5 (j_ c6 (j_ c7 n2)))))))))))) ?_
   exact next (Qao _ _ _ rfl)
  have c7:=Qir (n:=13) k7 rfl
  by_cases k8:c.toNat<32
  ·have c8:((c.toNat:Int)<32)=True:=eq_true (by omega)
   have e:Qb4 c= [92,117,48,48,QgN (c.toNat/16),QgN (c.toNat % 16)]:=by unfold Qb4;rw[if_neg hne,if_neg k3,if_neg k4,if_neg k5,if_neg k6,if_neg k7,if_pos k8]
   rw[e]at next
   have p1:=shr4 c.toNat
   have p2:=and15u c.toNat hcl
   have p3:=hex_at ⟨c.toNat/16,by omega⟩
   have p4:=hex_at ⟨c.toNat % 16,by omega⟩
   simp only[hexs]at p3 p4
   refine w_r (j_ f1 (j_ hc (j_ @byteD.eq_1 (j_ hTz (j_ w1 (j_ c1 (j_ c2 (j_ c3 (j_ c4 (j_ c5 (j_ c6 (j_ c7 (j_ c8 (j_ n6 (j_ p1 (j_ p2 (j_ p3 p4))))))))))))))))) ?_
   exact next (Qao _ _ _ rfl)
  have c8:((c.toNat:Int)<32)=False:=eq_false (by omega)
  have e:Qb4 c= [c]:=by unfold Qb4;rw[if_neg hne,if_neg k3,if_neg k4,if_neg k5,if_neg k6,if_neg k7,if_neg k8]
  rw[e]at next
  refine w_r (j_ f1 (j_ hc (j_ @byteD.eq_1 (j_ hTz (j_ w1 (j_ c1 (j_ c2 (j_ c3 (j_ c4 (j_ c5 (j_ c6 (j_ c7 (j_ c8 n1))))))))))))) ?_
  exact next (Qao _ _ _ rfl)
 ·obtain rfl:i=s.length:=by omega
  have f1:((s.length:Int)<(s.length:Int))=False:=eq_false (by omega)
  rw[List.take_length]at hT
  have n1:(T.length+(0+1))*2≤70368744177664:=by omega
  have e:b++QaK s=(b++34::s.flatMap Qb4)++ [34]:=by unfold QaK;simp
  rw[e,bF,List.map_append,←hT]
  clear hT e
  refine w_r (j_ f1 (j_ hTz n1)) ?_
  exact Qad (vs:= [.fslice (T++ [byteD 34])]) rfl rfl ⟨rfl,rfl⟩
end Go.Proofs.YtmhmjlfajlpabaaDoor
