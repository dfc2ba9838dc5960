/- Part 7. -/
import Derived.Test.YtmhmjlfajlpabaaDoorPartF
import Derived.Test.YtmhmjlfajlpabaaDoorRows
import Derived.Lib.LaidU8T
import Derived.Lib.LaidTab
import Derived.Lib.ItoaNum
import Derived.KernelRfl
import Derived.Lib.FrozenHead2
import Derived.Test.YtmhmjlfajlpabaaDoorChecked
import Derived.Shelf.Strings.Builder1
import Derived.Shelf.RegionOpenPlain
import Derived.Lib.Hide
import Derived.Test.YtmhmjlfajlpabaaDoorProg
import Derived.Shelf.SlSortCmp.NoneTotal
import Derived.WalkKit
import Derived.Deep.QuietTactic
import Derived.BigQuiet
import Derived.Lib.Walk
import Derived.Lib.Strings
import Derived.Lib.Slices
import Derived.Lib.SortBridge
import Derived.Shelf.Strconv.Itoa1
import Derived.Shelf.Strconv.Itoa2
import Derived.Shelf.Small.Bits
import Derived.Lib.ItoaMem
import Derived.Shelf.Unicode.ValidAny
import Derived.Shelf.Unicode.DecodeAny
set_option linter.all false
namespace Go.Proofs.YtmhmjlfajlpabaaDoor
open Go Go.Abs
theorem Qg8{α:Type}(f:α→Nat):∀ {P:List α} {i:Nat} {p:α},P[i]? =some p→((P.take i).map f).sum+f p≤(P.map f).sum
 | [],i,p,h=>by cases h
 |a::P,0,p,h=>by
  simp only[List.getElem?_cons_zero,Option.some.injEq]at h
  subst h
  simp
 |a::P,i+1,p,h=>by
  have:=Qg8 f (P:=P) (i:=i) (p:=p) (by simpa using h)
  simp only[List.take_succ_cons,List.map_cons,List.sum_cons];omega
theorem QpS{f:Nat}{j:J}(h:goodB (f+1) j=true)(h5:j.k=5):((Qar j.ks).map fun i=>32*wt (j.l.getD i J.zero)+6*(j.ks.getD i []).length+4).sum+32≤32*wt j:=by
 obtain⟨hs,ha⟩:=Bool.and_eq_true_iff.1 (show(Qan j&&j.l.all (goodB f))=true from h)
 have hw:=QdQ j
 obtain⟨hl,hd⟩:=Qcf hs h5
 rw[QlM wt List.length,Qeq ((Qa1 j.ks).map fun i=>wt (j.l.getD i J.zero)),Qeq ((Qa1 j.ks).map fun i=>(j.ks.getD i []).length),QaV]
 have e1:(List.range j.ks.length).map (fun i=>wt (j.l.getD i J.zero))=j.l.map wt:=by
  rw[hl,show(fun i=>wt (j.l.getD i J.zero))=wt∘(fun i=>j.l.getD i J.zero)from rfl,←List.map_map,Qbv]
 have e2:(List.range j.ks.length).map (fun i=>(j.ks.getD i []).length)=j.ks.map List.length:=by
  rw[show(fun i=>(j.ks.getD i []).length)=List.length∘(fun i=>j.ks.getD i [])from rfl,←List.map_map,Qbv]
 rw[e1,e2,QeH]
 have h3:=Ql9 j.ks
 omega
theorem QoU{f:Nat}{j:J}(h:goodB (f+1) j=true)(h5:j.k=5)(b:Tx){i p:Nat}(hp:(Qar j.ks)[i]? =some p):
  (QgY (QaS f) j.ks j.l true b ((Qar j.ks).take i)).length+32*wt (j.l.getD p J.zero)+6*(j.ks.getD p []).length+4+32≤b.length+32*wt j:=by
 have hm:=QpS h h5
 obtain⟨hs,ha⟩:=Bool.and_eq_true_iff.1 (show(Qan j&&j.l.all (goodB f))=true from h)
 have hall:∀y∈j.l,goodB f y=true:=fun y hy=>List.all_eq_true.1 ha y hy
 obtain⟨hl,hd⟩:=Qcf hs h5
 have h1:=Qjy (w:=QaS f) (ks:=j.ks) (l:=j.l) ((Qar j.ks).take i) true b fun i hi b=>Qdg f b _ (hall _ (by
  have:=Qbu (List.mem_of_mem_take hi)
  simp only[List.getD,List.getElem?_eq_getElem (show i<j.l.length by omega),Option.getD_some]
  exact List.getElem_mem _))
 have h2:=Qg8 (fun i=>32*wt (j.l.getD i J.zero)+6*(j.ks.getD i []).length+4) hp
 omega
theorem wMap_len{f:Nat}{j:J}(h:goodB (f+1) j=true)(h5:j.k=5)(b:Tx):
  (QgY (QaS f) j.ks j.l true b (Qar j.ks)).length+32≤b.length+32*wt j:=by
 have hm:=QpS h h5
 obtain⟨hs,ha⟩:=Bool.and_eq_true_iff.1 (show(Qan j&&j.l.all (goodB f))=true from h)
 have hall:∀y∈j.l,goodB f y=true:=fun y hy=>List.all_eq_true.1 ha y hy
 obtain⟨hl,hd⟩:=Qcf hs h5
 have h1:=Qjy (w:=QaS f) (ks:=j.ks) (l:=j.l) (Qar j.ks) true b fun i hi b=>Qdg f b _ (hall _ (by
  have:=Qbu hi
  simp only[List.getD,List.getElem?_eq_getElem (show i<j.l.length by omega),Option.getD_some]
  exact List.getElem_mem _))
 omega
theorem QnL{f:Nat}{j:J}(h:goodB (f+1) j=true)(b:Tx){i:Nat}{y:J}(hp:j.l[i]? =some y):
  (Qc4 (QaS f) true b (j.l.take i)).length+32*wt y+32≤b.length+32*wt j:=by
 obtain⟨hs,ha⟩:=Bool.and_eq_true_iff.1 (show(Qan j&&j.l.all (goodB f))=true from h)
 have hall:∀y∈j.l,goodB f y=true:=fun y hy=>List.all_eq_true.1 ha y hy
 have hw:=QdQ j
 have h1:=QgC (w:=QaS f) (j.l.take i) true b fun y hy b=>Qdg f b _ (hall _ (List.mem_of_mem_take hy))
 have h2:=Qg8 wt hp
 rw[QeH,QeH]at h2
 omega
end Go.Proofs.YtmhmjlfajlpabaaDoor
set_option maxRecDepth 100000
namespace Go.Proofs.YtmhmjlfajlpabaaDoor
open Go Go.Abs Go.Lib
theorem one_row(H:Qaa)(a:AObj)(M:List AObj):∃G:AObj→Qaa,(∀q,(H++ [a])++M++ [q]=G q)∧((H++ [a])++M).length=H.length+1+M.length∧(∀q,(G q)[H.length+1+M.length]? =some q)∧(∀q q',(G q).set (H.length+1+M.length) q'=G q'):=by
 refine⟨fun q=>(H++ [a])++M++ [q],fun _=>rfl,by simp;omega,fun q=> ?_,fun q q'=> ?_⟩
 ·rw[List.getElem?_append_right (by simp;omega)]
  have:H.length+1+M.length-(H++ [a]++M).length=0:=by simp;omega
  rw[this];rfl
 ·rw[List.set_append_right _ _ (by simp;omega)]
  have:H.length+1+M.length-(H++ [a]++M).length=0:=by simp;omega
  rw[this];rfl
set_option maxHeartbeats 2000000 in
theorem Qjt:∀(n:Nat) (lim:Nat) (H:Qaa) (b:Tx) (j:J),goodB n j=true→wt j≤100000000000→b.length+32*wt j≤9000000000000→Ev (QaH code Qaq) 28 lim [bF b,.d j.d] H (bF (QaS n b j)) H
 |0,_,_,_,_,h,_,_=>by cases h
 |n+1,lim,H,b,j,hg,hwt,hb=>by
  have hp1:=Qkd j
  obtain⟨hs,ha⟩:=Bool.and_eq_true_iff.1 (show(Qan j&&j.l.all (goodB n))=true from hg)
  have hall:∀y∈j.l,goodB n y=true:=fun y hy=>List.all_eq_true.1 ha y hy
  have hk:=QnK j
  have hl:=wt_l j
  have hyw:∀y∈j.l,wt y≤100000000000:=fun y hy=>by have:=Qga hy;omega
  refine Fn.ev ?_
  refine Qa2 (pn rfl) rfl (show code 28=some c28 from rfl) rfl ?_;simp only[List.length_cons,List.length_nil,List.cons_append,List.nil_append,simprocAttr]
  have hjd:=jd j
  have hz:=Qai b
  obtain⟨K,hK⟩:∃K,H++ [AObj.cells (jC j)]=K:=⟨_,rfl⟩
  have gK:K[H.length]? =some (.cells (jC j)):=by rw[←hK];exact Qa3 _ _
  unfold QaS
  by_cases c0:16384<b.length
  ·rw[if_pos c0]
   have f0:((b.length:Int)>16384)=True:=eq_true (by omega)
   refine w_r (j_ hjd (j_ hK (j_ f0 (@List.length_map.{0,0})))) ?_
   exact Qad (vs:= [bF b]) rfl rfl ⟨rfl,rfl⟩
  rw[if_neg c0]
  have f0:((b.length:Int)>16384)=False:=eq_false (by omega)
  by_cases h1:j.k=1
  ·rw[if_pos h1]
   have c1:(j.k==1)=true:=by simpa using h1
   by_cases ht:j.n=1
   ·have ct:(j.n==1)=true:=by simpa using ht
    rw[if_pos ht]
    have a1:=QnF H.length K b true (by omega)
    refine w_r (j_ hjd (j_ hK (j_ f0 (j_ gK (j_ c1 (@List.length_map.{0,0})))))) ?_
    refine w_1 a1 (j_ gK ct) ?_
    refine w_r trivial ?_
    exact Qad (vs:= [bF (b++_)]) rfl rfl ⟨rfl,rfl⟩
   ·have ct:(j.n==1)=false:=by simpa using ht
    rw[if_neg ht]
    have a1:=QnF H.length K b false (by omega)
    refine w_r (j_ hjd (j_ hK (j_ f0 (j_ gK (j_ c1 (@List.length_map.{0,0})))))) ?_
    refine w_1 a1 (j_ gK ct) ?_
    refine w_r trivial ?_
    exact Qad (vs:= [bF (b++_)]) rfl rfl ⟨rfl,rfl⟩
  rw[if_neg h1]
  have c1:(j.k==1)=false:=by simpa using h1
  by_cases h2:j.k=2
  ·rw[if_pos h2]
   have c2:(j.k==2)=true:=by simpa using h2
   obtain⟨r1,r2⟩:=QfF hs h2
   have a1:=intA_ev H.length K b j.n r1 r2 (by omega)
   refine w_r (j_ hjd (j_ hK (j_ f0 (j_ gK (j_ c1 (j_ c2 (@List.length_map.{0,0}))))))) ?_
   refine w_1 a1 gK ?_
   refine w_r trivial ?_
   exact Qad (vs:= [bF (b++_)]) rfl rfl ⟨rfl,rfl⟩
  rw[if_neg h2]
  have c2:(j.k==2)=false:=by simpa using h2
  by_cases h3:j.k=3
  ·rw[if_pos h3]
   have c3:(j.k==3)=true:=by simpa using h3
   have htl:=wt_t j
   have a1:=QjI H.length K b j.t (by omega) (by omega)
   refine w_r (j_ hjd (j_ hK (j_ f0 (j_ gK (j_ c1 (j_ c2 (j_ c3 (@List.length_map.{0,0})))))))) ?_
   refine w_1 a1 gK ?_
   refine w_r trivial ?_
   exact Qad (vs:= [bF (b++_)]) rfl rfl ⟨rfl,rfl⟩
  rw[if_neg h3]
  have c3:(j.k==3)=false:=by simpa using h3
  have n1:(b.length+(0+1))*2≤70368744177664:=by omega
  have n4:(b.length+(0+1+1+1+1))*2≤70368744177664:=by omega
  by_cases h4:j.k=4
  ·rw[if_pos h4]
   have c4:(j.k==4)=true:=by simpa using h4
   refine w_r (j_ hjd (j_ hK (j_ f0 (j_ gK (j_ c1 (j_ c2 (j_ c3 (j_ c4 (j_ hz (j_ n1 (@List.length_map.{0,0}))))))))))) ?_
   refine QgT (fun k st=>∃(i:Nat) (T:List D) (M:List AObj),i≤j.l.length∧k=j.l.length-i∧T=(Qc4 (QaS n) true (b++ [91]) (j.l.take i)).map byteD∧∃x:Nat→AV,st=⟨[.fslice T,x 1,x 2,x 3,x 4,x 5,x 6,x 7,x 8,x 9,x 10,x 11,.fslice [],.ptr H.length 0,x 14,.d (jsD j.l),intD j.l.length,intD i,x 18,x 19,x 20,x 21,x 22,x 23,x 24,x 25,x 26,x 27],K++M⟩) ?_ _ _ ⟨0,_,[],Nat.zero_le _,rfl,by simp[Qc4,byteD],Qdu (by rw[List.append_nil]) rfl⟩
   rintro k _ ⟨i,T,M,hi,rfl,hT,x,rfl⟩
   have hTz:Qa9 1 T=true:=by rw[hT];exact Qai _
   by_cases t0:i<j.l.length
   ·have f1:((i:Int)<(j.l.length:Int))=True:=eq_true (by omega)
    have w1:IntKind.i64.wrap ((i:Int)+1)=((i+1:Nat):Int):=Qdf (by omega)
    obtain⟨y,hy⟩:∃y,j.l[i]? =some y:=⟨_,List.getElem?_eq_getElem t0⟩
    have hyd:=jd y
    have hstep:=QnL hg (b++ [91]) hy
    have hsn:=Qix (QaS n) (j.l.take i) true (b++ [91]) y
    rw[show j.l.take i++ [y]=j.l.take (i+1) by rw[List.take_add_one,hy];rfl]at hsn
    have hym:=List.mem_of_getElem? hy
    have ih:=fun(L:Nat) (H:Qaa) (c:Tx) (hc:c.length+32*wt y≤9000000000000)=>Qjt n L H c y (hall y hym) (hyw y hym) hc
    simp only[hyd]at ih
    obtain⟨W0,hW0⟩:∃W0,Qc4 (QaS n) true (b++ [91]) (j.l.take i)=W0:=⟨_,rfl⟩
    obtain⟨W1,hW1⟩:∃W1,Qc4 (QaS n) true (b++ [91]) (j.l.take (i+1))=W1:=⟨_,rfl⟩
    rw[hW0]at hstep hsn hT
    rw[hW1]at hsn
    simp only[List.length_append,List.length_cons,List.length_nil]at hstep
    have hTl:T.length=W0.length:=by rw[hT,List.length_map]
    obtain⟨G,gg,gl,g0,g4⟩:=one_row H (.cells (jC j)) M
    rw[hK]at gg gl
    have hll3:H.length≤H.length+1+M.length:=by omega
    by_cases hi0:i=0
    ·have f2:((i:Int)>0)=False:=eq_false (by omega)
     have he:(j.l.take i).isEmpty=true:=by subst hi0;rfl
     rw[he]at hsn
     have a1:=ih H.length (G (.cells (jC y))) W0 (by omega)
     rw[show QaS n W0 y=W1 from hsn.symm,bF,←hT]at a1
     refine w_r (j_ f1 (j_ f2 (j_ hy (j_ hyd (j_ gg (j_ gl (j_ g0 (j_ g4 hll3)))))))) ?_
     refine w_1 a1 g0 ?_
     refine w_r w1 ?_
     exact⟨j.l.length-(i+1),by omega,i+1,_,M++ [.cells (jC y)],t0,rfl,by rw[hW1],Qdu (by rw[←List.append_assoc,gg]) rfl⟩
    ·have f2:((i:Int)>0)=True:=eq_true (by omega)
     have he:(j.l.take i).isEmpty=false:=by
      cases h:(j.l.take i).isEmpty with
      |false=>rfl
      |true=>have:=congrArg List.length (List.isEmpty_iff.1 h);rw[List.length_take,List.length_nil]at this;omega
     rw[he]at hsn
     have a1:=ih H.length (G (.cells (jC y))) (W0++ [44]) (by rw[List.length_append];show W0.length+1+32*wt y≤_;omega)
     rw[show QaS n (W0++ [44]) y=W1 from hsn.symm,show bF (W0++ [44])= .fslice (T++ [D.int .u8 44]) by rw[hT];simp[bF,byteD]]at a1
     have m1:(T.length+(0+1))*2≤70368744177664:=by omega
     refine w_r (j_ f1 (j_ f2 (j_ hy (j_ hyd (j_ gg (j_ gl (j_ g0 (j_ g4 (j_ hll3 (j_ hTz m1)))))))))) ?_
     refine w_1 a1 g0 ?_
     refine w_r w1 ?_
     exact⟨j.l.length-(i+1),by omega,i+1,_,M++ [.cells (jC y)],t0,rfl,by rw[hW1],Qdu (by rw[←List.append_assoc,gg]) rfl⟩
   ·obtain rfl:i=j.l.length:=by omega
    have f1:((j.l.length:Int)<(j.l.length:Int))=False:=eq_false (by omega)
    rw[List.take_length]at hT
    have hle:=QgC (w:=QaS n) j.l true (b++ [91]) fun y hy b=>Qdg n b y (hall y hy)
    have hw:=QdQ j
    obtain⟨W0,hW0⟩:∃W0,Qc4 (QaS n) true (b++ [91]) j.l=W0:=⟨_,rfl⟩
    rw[hW0]at hle hT⊢
    simp only[List.length_append,List.length_cons,List.length_nil]at hle
    have m1:(T.length+(0+1))*2≤70368744177664:=by rw[hT,List.length_map];omega
    refine w_r (j_ f1 (j_ hTz m1)) ?_
    exact Qad (vs:= [.fslice (T++ [D.int .u8 93])]) rfl rfl ⟨by rw[hT];simp[bF,byteD],rfl⟩
  rw[if_neg h4]
  have c4:(j.k==4)=false:=by simpa using h4
  by_cases h5:j.k=5
  ·rw[if_pos h5]
   have c5:(j.k==5)=true:=by simpa using h5
   obtain⟨hkl,hnd⟩:=Qcf hs h5
   refine w_r (j_ hjd (j_ hK (j_ f0 (j_ gK (j_ c1 (j_ c2 (j_ c3 (j_ c4 (j_ c5 (j_ hz (j_ n1 (@List.length_map.{0,0})))))))))))) ?_
   have hpl:=QkC (pr:=Qaq) H.length K j.ks (by omega) hnd
   obtain⟨P,hP⟩:∃P,Qar j.ks=P:=⟨_,rfl⟩
   have hPl:=QaV j.ks
   have hPm:∀i∈P,i<j.ks.length:=fun i hi=>Qbu (hP▸hi)
   rw[hP]at hpl hPl
   have hst:=fun(i p:Nat) (h:(Qar j.ks)[i]? =some p)=>QoU hg h5 (b++ [123]) h
   rw[hP]at hst⊢
   refine w_1 hpl (j_ gK (@List.length_map.{0,0})) ?_
   refine w_r trivial ?_
   refine QgT (fun k st=>∃(i:Nat) (T:List D),i≤P.length∧k=P.length-i∧T=(QgY (QaS n) j.ks j.l true (b++ [123]) (P.take i)).map byteD∧∃x:Nat→AV,st=⟨[.fslice T,x 1,x 2,x 3,x 4,x 5,x 6,x 7,x 8,x 9,x 10,x 11,.fslice [],.ptr H.length 0,x 14,x 15,x 16,x 17,x 18,x 19,.d (.slice (P.map fun(i:Nat)=>D.int .i64 (i:Int))),intD P.length,intD i,x 23,x 24,x 25,x 26,x 27],K⟩) ?_ _ _ ⟨0,_,Nat.zero_le _,rfl,by simp[QgY,byteD],Qao _ _ _ rfl⟩
   rintro k _ ⟨i,T,hi,rfl,hT,x,rfl⟩
   have hTz:Qa9 1 T=true:=by rw[hT];exact Qai _
   by_cases t0:i<P.length
   ·have f1:((i:Int)<(P.length:Int))=True:=eq_true (by omega)
    have w1:IntKind.i64.wrap ((i:Int)+1)=((i+1:Nat):Int):=Qdf (by omega)
    obtain⟨p,hp⟩:∃p,P[i]? =some p:=⟨_,List.getElem?_eq_getElem t0⟩
    have hpk:=hPm p (List.mem_of_getElem? hp)
    obtain⟨s,hs'⟩:∃s,j.ks[p]? =some s:=⟨_,List.getElem?_eq_getElem hpk⟩
    obtain⟨y,hy⟩:∃y,j.l[p]? =some y:=⟨_,List.getElem?_eq_getElem (by omega)⟩
    have hyd:=jd y
    have hstep:=hst i p hp
    have hsn:=Qke (QaS n) j.ks j.l (P.take i) true (b++ [123]) p
    rw[show P.take i++ [p]=P.take (i+1) by rw[List.take_add_one,hp];rfl]at hsn
    have g1:j.ks.getD p []=s:=by simp[List.getD,hs']
    have g2:j.l.getD p J.zero=y:=by simp[List.getD,hy]
    rw[g1,g2]at hsn hstep
    have hym:=List.mem_of_getElem? hy
    have ih:=fun(L:Nat) (H:Qaa) (c:Tx) (hc:c.length+32*wt y≤9000000000000)=>Qjt n L H c y (hall y hym) (hyw y hym) hc
    simp only[hyd]at ih
    obtain⟨W0,hW0⟩:∃W0,QgY (QaS n) j.ks j.l true (b++ [123]) (P.take i)=W0:=⟨_,rfl⟩
    obtain⟨W1,hW1⟩:∃W1,QgY (QaS n) j.ks j.l true (b++ [123]) (P.take (i+1))=W1:=⟨_,rfl⟩
    rw[hW0]at hstep hsn hT
    rw[hW1]at hsn
    simp only[List.length_append,List.length_cons,List.length_nil]at hstep
    have hTl:T.length=W0.length:=by rw[hT,List.length_map]
    have hql:=Qep s
    have hsl:s.length≤100000000000:=by have:=wt_key (List.mem_of_getElem? hs');omega
    by_cases hi0:i=0
    ·have f2:((i:Int)>0)=False:=eq_false (by omega)
     have he:(P.take i).isEmpty=true:=by subst hi0;rfl
     rw[he]at hsn
     have aq:=QjI H.length K W0 s (by omega) (by omega)
     obtain⟨U,hU⟩:∃U,(W0++QaK s).map byteD=U:=⟨_,rfl⟩
     have hUl:U.length≤W0.length+1+6*s.length+2:=by rw[←hU,List.length_map,List.length_append];omega
     have hUz:Qa9 1 U=true:=by rw[←hU];exact Qai _
     have aw:=ih H.length K (W0++QaK s++ [58]) (by rw[List.length_append,List.length_append];show W0.length+_+1+32*wt y≤_;omega)
     rw[show QaS n (W0++QaK s++ [58]) y=W1 from hsn.symm,show bF (W0++QaK s++ [58])= .fslice (U++ [D.int .u8 58]) by rw[←hU];simp[bF,byteD]]at aw
     rw[bF,bF,hU,←hT]at aq
     have m2:(U.length+(0+1))*2≤70368744177664:=by omega
     clear hU
     refine w_r (j_ f1 (j_ f2 hp)) ?_
     refine w_2 aq aw (j_ gK (j_ hs' (j_ hy (j_ hyd (j_ hUz m2))))) ?_
     refine w_r w1 ?_
     exact⟨P.length-(i+1),by omega,i+1,_,t0,rfl,by rw[hW1],Qao _ _ _ rfl⟩
    ·have f2:((i:Int)>0)=True:=eq_true (by omega)
     have he:(P.take i).isEmpty=false:=by
      cases h:(P.take i).isEmpty with
      |false=>rfl
      |true=>have:=congrArg List.length (List.isEmpty_iff.1 h);rw[List.length_take,List.length_nil]at this;omega
     rw[he]at hsn
     have hc44:(W0++ [44]).length=W0.length+1:=by simp
     have aq:=QjI H.length K (W0++ [44]) s (by omega) (by omega)
     obtain⟨U,hU⟩:∃U,(W0++ [44]++QaK s).map byteD=U:=⟨_,rfl⟩
     have hUl:U.length≤W0.length+1+6*s.length+2:=by rw[←hU,List.length_map,List.length_append];omega
     have hUz:Qa9 1 U=true:=by rw[←hU];exact Qai _
     have aw:=ih H.length K (W0++ [44]++QaK s++ [58]) (by rw[List.length_append,List.length_append];show(W0++ [44]).length+_+1+32*wt y≤_;omega)
     rw[show QaS n (W0++ [44]++QaK s++ [58]) y=W1 from hsn.symm,show bF (W0++ [44]++QaK s++ [58])= .fslice (U++ [D.int .u8 58]) by rw[←hU];simp[bF,byteD]]at aw
     rw[show bF (W0++ [44])= .fslice (T++ [D.int .u8 44]) by rw[hT];simp[bF,byteD],bF,hU]at aq
     have m1:(T.length+(0+1))*2≤70368744177664:=by omega
     have m2:(U.length+(0+1))*2≤70368744177664:=by omega
     clear hU
     refine w_r (j_ f1 (j_ f2 (j_ hp (j_ hTz m1)))) ?_
     refine w_2 aq aw (j_ gK (j_ hs' (j_ hy (j_ hyd (j_ hUz m2))))) ?_
     refine w_r w1 ?_
     exact⟨P.length-(i+1),by omega,i+1,_,t0,rfl,by rw[hW1],Qao _ _ _ rfl⟩
   ·obtain rfl:i=P.length:=by omega
    have f1:((P.length:Int)<(P.length:Int))=False:=eq_false (by omega)
    rw[List.take_length]at hT
    have hle:=wMap_len hg h5 (b++ [123])
    rw[hP]at hle
    obtain⟨W0,hW0⟩:∃W0,QgY (QaS n) j.ks j.l true (b++ [123]) P=W0:=⟨_,rfl⟩
    rw[hW0]at hle hT⊢
    simp only[List.length_append,List.length_cons,List.length_nil]at hle
    have m1:(T.length+(0+1))*2≤70368744177664:=by rw[hT,List.length_map];omega
    refine w_r (j_ f1 (j_ hTz m1)) ?_
    exact Qad (vs:= [.fslice (T++ [D.int .u8 125])]) rfl rfl ⟨by rw[hT];simp[bF,byteD],rfl⟩
  rw[if_neg h5]
  have c5:(j.k==5)=false:=by simpa using h5
  refine w_r (j_ hjd (j_ hK (j_ f0 (j_ gK (j_ c1 (j_ c2 (j_ c3 (j_ c4 (j_ c5 (j_ hz (j_ n4 (@List.length_map.{0,0})))))))))))) ?_
  exact Qad (vs:= [bF (b++ [110,117,108,108])]) (by simp only[Qcc,zz,simprocAttr];simp[bF,byteD]) rfl ⟨rfl,rfl⟩
theorem Qfz(lim:Nat)(H:Qaa)(j:J)(hw:wt j≤100000000000):Ev (QaH code Qaq) 12 lim [.d j.d] H (Qqw (QbB j)) H:=by
 refine Fn.ev ?_
 refine Qa2 (pn rfl) rfl (show code 12=some c12 from rfl) rfl ?_;simp only[List.length_cons,List.length_nil,List.cons_append,List.nil_append,simprocAttr]
 have hjd:=jd j
 obtain⟨K,hK⟩:∃K,H++ [AObj.cells (jC j)]=K:=⟨_,rfl⟩
 have gK:K[H.length]? =some (.cells (jC j)):=by rw[←hK];exact Qa3 _ _
 have hg:=Good_ev H.length K j hw
 simp only[hjd]at hg
 cases hgo:goodB 12 j with
 |false=>
  unfold QbB
  rw[hgo]at hg⊢
  refine w_r (j_ hjd (j_ hK gK)) ?_
  refine w_1 hg gK ?_
  refine w_r trivial ?_
  exact Qad (vs:= [.fslice [],intD 1]) rfl rfl ⟨rfl,rfl⟩
 |true=>
  rw[hgo]at hg
  rw[Qle hgo]
  have ht:=Qjt 12 H.length K [] j hgo hw (by simp;omega)
  rw[hjd,show bF []= .fslice []from rfl]at ht
  generalize QaS 12 [] j=T at*
  refine w_r (j_ hjd (j_ hK gK)) ?_
  refine w_1 hg gK ?_
  refine w_r gK ?_
  refine w_1 ht gK ?_
  by_cases hl:16384<T.length
  ·have f1:((T.length:Int)>16384)=True:=eq_true (by omega)
   rw[if_pos hl]
   refine w_r (j_ f1 (@List.length_map.{0,0})) ?_
   exact Qad (vs:= [.fslice [],intD 13]) rfl rfl ⟨rfl,rfl⟩
  ·have f1:((T.length:Int)>16384)=False:=eq_false (by omega)
   rw[if_neg hl]
   refine w_r (j_ f1 (@List.length_map.{0,0})) ?_
   exact Qad (vs:= [bF T,intD 0]) rfl rfl ⟨rfl,rfl⟩
theorem Qp7(lim:Nat)(H:Qaa)(a b c d e:Tx)(ha:a≠ [])(hl:a.length+b.length+c.length+d.length+e.length≤10000000000000):Ev (QaH code Qaq) 17 lim [.d (.str a),.d (.slice (b.map byteD)),.d (.str c),.d (.slice (d.map byteD)),.d (.str e)] H (bF (a++b++c++d++e)) H:=by
 refine Fn.ev ?_
 refine Qa2 (pn rfl) rfl (show code 17=some c17 from rfl) rfl ?_;simp only[List.length_cons,List.length_nil,List.cons_append,List.nil_append,simprocAttr]
 have z1:=Qai a
 have z2:=Qai b
 have z3:=Qai c
 have z4:=Qai d
 have z5:=Qai e
 have hTb:=toB_ne ha
 have m1:(a.length+b.length)*2≤70368744177664:=by omega
 have m2:(a.length+b.length+c.length)*2≤70368744177664:=by omega
 have m3:(a.length+b.length+c.length+d.length)*2≤70368744177664:=by omega
 have m4:(a.length+b.length+c.length+d.length+e.length)*2≤70368744177664:=by omega
 have z6:Qa9 1 (a.map byteD++b.map byteD)=true:=by rw[←List.map_append];exact Qai _
 have z7:Qa9 1 (a.map byteD++b.map byteD++c.map byteD)=true:=by rw[←List.map_append,←List.map_append];exact Qai _
 have z8:Qa9 1 (a.map byteD++b.map byteD++c.map byteD++d.map byteD)=true:=by rw[←List.map_append,←List.map_append,←List.map_append];exact Qai _
 refine w_r (j_ hTb (j_ z1 (j_ z2 (j_ z3 (j_ z4 (j_ z5 (j_ z6 (j_ z7 (j_ z8 (j_ m1 (j_ m2 (j_ m3 (j_ m4 (@List.length_map.{0,0})))))))))))))) ?_
 exact Qad (vs:= [bF (a++b++c++d++e)]) (by simp only[Qcc,zz,simprocAttr];simp[bF]) rfl ⟨rfl,rfl⟩
end Go.Proofs.YtmhmjlfajlpabaaDoor
namespace Go.Proofs.YtmhmjlfajlpabaaDoor
open Go Go.Abs
section
variable {s:Tx}
theorem QbW{p:Nat}{c:UInt8}{r:Tx}(h:s.drop p=c::r):s[p]? =some c:=by
 have:=List.getElem?_drop (xs:=s) (i:=p) (j:=0)
 rw[h]at this
 simpa using this.symm
theorem Qei{p:Nat}{x r:Tx}(h:s.drop p=x++r):s.drop (p+x.length)=r:=by
 rw[←List.drop_drop,h,List.drop_left]
theorem QaR{p:Nat}{c:UInt8}{r:Tx}(h:s.drop p=c::r):s.drop (p+1)=r:=by
 rw[←List.drop_drop,h];rfl
theorem Qfw{p:Nat}{c:UInt8}{r:Tx}(h:s.drop p=c::r):nx s p=c:=by rw[nx,QbW h];rfl
theorem QqV{p:Nat}(h:s.drop p= []):s[p]? =none:=by
 have:=List.getElem?_drop (xs:=s) (i:=p) (j:=0)
 rw[h]at this
 simpa using this.symm
theorem at_len{p:Nat}{x r:Tx}(h:s.drop p=x++r):x.length≤s.length:=by
 have:=congrArg List.length h
 rw[List.length_drop,List.length_append]at this;omega
theorem Qil{p:Nat}{c:UInt8}{r:Tx}(h:s.drop p=c::r):QbP s c p= .ok (p+1):=by
 rw[QbP,QbW h,if_pos rfl]
theorem Qj9:∀(w:Tx) {p:Nat} {r:Tx},s.drop p=w++r→QbF s w p= .ok (p+w.length)
 | [],p,r,_=>rfl
 |c::w,p,r,h=>by
  unfold QbF
  rw[Qil h]
  show QbF s w (p+1)=_
  rw[Qj9 w (QaR (r:=w++r) h),List.length_cons]
  congr 1;omega
theorem Qcl{p:Nat}{c:UInt8}{r:Tx}(h:s.drop p=c::r)(hc:Qaj c=false):Qac s p=p:=by
 rw[Qac,h,List.takeWhile_cons_of_neg (by simp[hc])];rfl
theorem QqW{p:Nat}(h:s.drop p= []):Qac s p=p:=by rw[Qac,h];rfl
theorem Qno:∀n:Fin 16,Qqd (QgN n.val)=some n.val:=by decide
theorem Qph(c:UInt8)(h:c.toNat<128):Qco c.toNat= [c]:=by
 rw[Qco,if_pos h];simp
theorem esc_hex{p:Nat}{c:UInt8}{r:Tx}(hc:c.toNat<32)(h:s.drop p= [117,48,48,QgN (c.toNat/16),QgN (c.toNat % 16)]++r):QdR s p= .ok (c.toNat,p+5):=by
 have g0:s[p]? =some 117:=QbW (r:= [48,48,QgN (c.toNat/16),QgN (c.toNat % 16)]++r) h
 have d1:s.drop (p+1)= [48,48,QgN (c.toNat/16),QgN (c.toNat % 16)]++r:=QaR h
 have d2:s.drop (p+1+1)= [48,QgN (c.toNat/16),QgN (c.toNat % 16)]++r:=QaR d1
 have d3:s.drop (p+1+1+1)= [QgN (c.toNat/16),QgN (c.toNat % 16)]++r:=QaR d2
 have d4:s.drop (p+1+1+1+1)= [QgN (c.toNat % 16)]++r:=QaR d3
 have h1:=Qno ⟨c.toNat/16,by omega⟩
 have h2:=Qno ⟨c.toNat % 16,by omega⟩
 simp only at h1 h2
 have h0:Qqd 48=some 0:=rfl
 have e:Qbo s 4 0 (p+1)= .ok (c.toNat,p+5):=by
  simp only[Qbo,QbW d1,QbW d2,QbW d3,QbW d4,h0,h1,h2]
  congr 2;omega
 unfold QdR
 rw[g0]
 simp only[e]
 rw[if_neg (by decide),if_neg (by decide),if_neg (by decide),if_neg (by decide),if_neg (by decide),if_neg (by decide),if_pos (by simp),if_pos (.inl (by omega))]
theorem esc_self{p:Nat}{c:UInt8}{r:Tx}(hc:c=34∨c=92)(h:s.drop p=c::r):QdR s p= .ok (c.toNat,p+1):=by
 unfold QdR
 rw[QbW h]
 simp only
 rw[if_pos (by rcases hc with h|h<;>simp[h])]
theorem esc_ctl{p:Nat}{c d:UInt8}{r:Tx}(hc:(c=8∧d=98)∨(c=9∧d=116)∨(c=10∧d=110)∨(c=12∧d=102)∨(c=13∧d=114))(h:s.drop p=d::r):QdR s p= .ok (c.toNat,p+1):=by
 unfold QdR
 rw[QbW h]
 rcases hc with⟨rfl,rfl⟩|⟨rfl,rfl⟩|⟨rfl,rfl⟩|⟨rfl,rfl⟩|⟨rfl,rfl⟩<;>rfl
theorem Qia{f p q:Nat}{acc:Tx}{c:UInt8}{r:Tx}(h:s.drop p=92::r)(he:QdR s (p+1)= .ok (c.toNat,q))(hc:c.toNat<128):QaW s (f+1) acc p=QaW s f (acc++ [c]) q:=by
 conv=>lhs;unfold QaW
 rw[QbW h]
 simp only[he,Qph c hc]
 rw[if_neg (by decide),if_neg (by decide),if_pos (by simp)]
theorem Qjl:∀(t:Tx) (f:Nat) (acc:Tx) (p:Nat) (r:Tx),s.drop p=t.flatMap Qb4++34::r→t.length<f→QaW s f acc p= .ok (acc++t,p+(t.flatMap Qb4).length+1)
 | [],0,_,_,_,_,h=>by omega
 | [],f+1,acc,p,r,h,_=>by
   unfold QaW
   rw[QbW (c:=34) (r:=r) h]
   simp only
   rw[if_neg (by decide),if_pos (by simp)]
   simp
 |c::t,0,_,_,_,_,h=>by simp at h
 |c::t,f+1,acc,p,r,h,hf=>by
  rw[List.flatMap_cons,List.append_assoc]at h
  have ih:=fun(q:Nat) (hq:s.drop q=t.flatMap Qb4++34::r)=>Qjl t f (acc++ [c]) q r hq (by simpa using hf)
  have ha:acc++ [c]++t=acc++c::t:=by simp
  rw[ha]at ih
  have hd:=Qei h
  rw[List.flatMap_cons,List.length_append]
  by_cases k1:c=34∨c=92
  ·have e:Qb4 c= [92,c]:=by rw[Qb4,if_pos k1]
   rw[e]at h hd⊢
   rw[Qia (r:=c::(t.flatMap Qb4++34::r)) h (esc_self (r:=t.flatMap Qb4++34::r) k1 (QaR h)) (by rcases k1 with rfl|rfl<;>decide),ih (p+1+1) hd]
   simp only[List.length_cons,List.length_nil];congr 2;omega
  by_cases k2:c=8∨c=9∨c=10∨c=12∨c=13
  ·obtain⟨d,hcd,e⟩:∃d,((c=8∧d=98)∨(c=9∧d=116)∨(c=10∧d=110)∨(c=12∧d=102)∨(c=13∧d=114))∧Qb4 c= [92,d]:=by
    rcases k2 with rfl|rfl|rfl|rfl|rfl
    ·exact⟨98,by simp,rfl⟩
    ·exact⟨116,by simp,rfl⟩
    ·exact⟨110,by simp,rfl⟩
    ·exact⟨102,by simp,rfl⟩
    ·exact⟨114,by simp,rfl⟩
   rw[e]at h hd⊢
   rw[Qia (r:=d::(t.flatMap Qb4++34::r)) h (esc_ctl (r:=t.flatMap Qb4++34::r) hcd (QaR h)) (by rcases k2 with rfl|rfl|rfl|rfl|rfl<;>decide),ih (p+1+1) hd]
   simp only[List.length_cons,List.length_nil];congr 2;omega
  have k2':c≠8∧c≠9∧c≠10∧c≠12∧c≠13:=⟨fun e=>k2 (by simp[e]),fun e=>k2 (by simp[e]),fun e=>k2 (by simp[e]),fun e=>k2 (by simp[e]),fun e=>k2 (by simp[e])⟩
  by_cases k3:c.toNat<32
  ·have e:Qb4 c= [92,117,48,48,QgN (c.toNat/16),QgN (c.toNat % 16)]:=by rw[Qb4,if_neg k1,if_neg k2'.1,if_neg k2'.2.1,if_neg k2'.2.2.1,if_neg k2'.2.2.2.1,if_neg k2'.2.2.2.2,if_pos k3]
   rw[e]at h hd⊢
   have h1:s.drop (p+1)= [117,48,48,QgN (c.toNat/16),QgN (c.toNat % 16)]++(t.flatMap Qb4++34::r):=QaR h
   rw[Qia (r:= [117,48,48,QgN (c.toNat/16),QgN (c.toNat % 16)]++(t.flatMap Qb4++34::r)) h (esc_hex k3 h1) (by omega),ih (p+1+5) hd]
   simp only[List.length_cons,List.length_nil];congr 2;omega
  ·have e:Qb4 c= [c]:=by rw[Qb4,if_neg k1,if_neg k2'.1,if_neg k2'.2.1,if_neg k2'.2.2.1,if_neg k2'.2.2.2.1,if_neg k2'.2.2.2.2,if_neg k3]
   rw[e]at h hd⊢
   have hs:QaW s (f+1) acc p=QaW s f (acc++ [c]) (p+1):=by
    conv=>lhs;unfold QaW
    rw[QbW (c:=c) (r:=t.flatMap Qb4++34::r) h]
    simp only
    rw[if_neg k3,if_neg (fun e=>k1 (.inl e)),if_neg (fun e=>k1 (.inr e))]
   rw[hs,ih (p+1) hd]
   simp only[List.length_cons,List.length_nil];congr 2;omega
theorem QhS:∀t:Tx,t.length≤(t.flatMap Qb4).length
 | []=>Nat.le_refl _
 |c::t=>by
  have:=QhS t
  have h:1≤(Qb4 c).length:=by
   unfold Qb4
   (repeat' split)<;>simp
  rw[List.flatMap_cons,List.length_append,List.length_cons];omega
theorem Qg6{t:Tx}{p:Nat}{r:Tx}(h:s.drop p=QaK t++r):Qbq s p= .ok (t,p+(QaK t).length):=by
 have h0:s.drop p=34::(t.flatMap Qb4++34::r):=by rw[h,QaK];simp
 have h1:=QaR h0
 have hl:(t.flatMap Qb4).length≤s.length:=at_len h1
 have hl2:=QhS t
 unfold Qbq
 rw[Qil h0]
 simp only
 rw[Qjl t (s.length+1) [] (p+1) r h1 (by omega)]
 simp[QaK];omega
def valD(ds:Tx)(n:Nat):Nat:=ds.foldl (fun n c=>10*n+(c.toNat-48)) n
theorem QoW:∀(ds:Tx) (n:Nat),n≤valD ds n
 | [],n=>Nat.le_refl _
 |c::ds,n=>by
  have:=QoW ds (10*n+(c.toNat-48))
  show n≤valD ds (10*n+(c.toNat-48))
  omega
theorem QgQ{d:Nat}(h:d<10):(UInt8.ofNat (48+d)).toNat=48+d:=by
 rw[UInt8.toNat_ofNat'];omega
theorem dig_ok{d:Nat}(h:d<10):QaE (UInt8.ofNat (48+d))=true:=by
 simp only[QaE,QgQ h,Bool.and_eq_true,decide_eq_true_eq];omega
theorem Qmq:∀m:Nat,valD (Lib.decDigits m) 0=m∧∀c∈Lib.decDigits m,QaE c=true:=by
 intro m
 induction m using Nat.strongRecOn with
 |_ m ih=>
  by_cases h:m<10
  ·rw[Lib.decDigits_one h]
   refine⟨?_, ?_⟩
   ·show 10*0+((UInt8.ofNat (48+m)).toNat-48)=m
    rw[QgQ h];omega
   ·intro c hc
    simp only[List.mem_singleton]at hc
    subst hc;exact dig_ok h
  ·obtain⟨h1,h2⟩:=ih (m/10) (by omega)
   have e:Lib.decDigits m=Lib.decDigits (m/10)++ [UInt8.ofNat (48+m % 10)]:=by
    conv=>lhs;rw[Lib.decDigits]
    rw[dif_neg h]
   rw[e]
   refine⟨?_, ?_⟩
   ·rw[valD,List.foldl_append]
    show 10*valD (Lib.decDigits (m/10)) 0+((UInt8.ofNat (48+m % 10)).toNat-48)=m
    rw[h1,QgQ (by omega)];omega
   ·intro c hc
    rcases List.mem_append.1 hc with hc|hc
    ·exact h2 c hc
    ·simp only[List.mem_singleton]at hc
     subst hc;exact dig_ok (by omega)
theorem dec_head:∀m:Nat,1≤m→∃d ds,Lib.decDigits m=d::ds∧d≠48:=by
 intro m
 induction m using Nat.strongRecOn with
 |_ m ih=>
  intro hm
  by_cases h:m<10
  ·rw[Lib.decDigits_one h]
   refine⟨_,_,rfl,fun e=> ?_⟩
   have:=congrArg UInt8.toNat e
   rw[QgQ h]at this
   have:(48:UInt8).toNat=48:=rfl
   omega
  ·obtain⟨d,ds,h1,h2⟩:=ih (m/10) (by omega) (by omega)
   have e:Lib.decDigits m=Lib.decDigits (m/10)++ [UInt8.ofNat (48+m % 10)]:=by
    conv=>lhs;rw[Lib.decDigits]
    rw[dif_neg h]
   exact⟨d,_,by rw[e,h1];rfl,h2⟩
theorem Qjh{first:Nat}{r:Tx}(hr:∀c r',r=c::r'→QaE c=false):∀(ds:Tx) (f n p:Nat),(∀c∈ds,QaE c=true)→s.drop p=ds++r→ds.length<f→
  (nx s first≠48∨ds= []∨(p=first∧∃d,ds= [d]))→valD ds n≤9007199254740991→Qa0 s first f n p= .ok (valD ds n,p+ds.length)
 |_,0,_,_,_,_,h,_,_=>by omega
 | [],f+1,n,p,_,h,_,_,_=>by
   unfold Qa0
   have hn:QaE (nx s p)=false:=by
    cases r with
    |nil=>rw[nx,QqV h];rfl
    |cons c r'=>rw[Qfw (r:=r') h];exact hr c r' rfl
   rw[hn];rfl
 |d::ds,f+1,n,p,hd,h,hf,hz,hv=>by
  unfold Qa0
  have hn:nx s p=d:=Qfw (r:=ds++r) h
  have hle:=QoW ds (10*n+(d.toNat-48))
  have hv':valD ds (10*n+(d.toNat-48))≤9007199254740991:=hv
  rw[hn,hd d (by simp),if_pos rfl]
  have hnz:¬(p=first+1∧nx s first=48):=by
   rintro⟨h1,h2⟩
   rcases hz with h|h|⟨h,_⟩
   ·exact h h2
   ·cases h
   ·omega
  rw[if_neg hnz,if_pos (by omega),Qjh hr ds f _ (p+1) (fun c hc=>hd c (by simp[hc])) (QaR h) (by simpa using hf) (by
   rcases hz with h|h|⟨_,d',h⟩
   ·exact .inl h
   ·cases h
   ·exact .inr (.inl (by simp at h;exact h.2))) hv',List.length_cons]
  show Except.ok (valD ds (10*n+(d.toNat-48)),_)=_
  congr 2;omega
def Ends(r:Tx):Prop:=∀c r',r=c::r'→c=44∨c=93∨c=125
theorem ends_dig{r:Tx}(h:Ends r):∀c r',r=c::r'→QaE c=false:=by
 intro c r' e
 rcases h c r' e with rfl|rfl|rfl<;>rfl
theorem Qqv{r:Tx}(h:Ends r){p:Nat}(hp:s.drop p=r):¬(nx s p=46∨nx s p=101∨nx s p=69):=by
 cases r with
 |nil=>rw[nx,QqV hp];decide
 |cons c r'=>rw[Qfw hp];rcases h c r' rfl with rfl|rfl|rfl<;>decide
theorem Ql5{n:Int}(h1: -9007199254740991≤n)(h2:n≤9007199254740991){p:Nat}{r:Tx}(hr:Ends r)(h:s.drop p=Lib.itoa n++r):QaZ s p= .ok (.mk 2 n [] [] [],p+(Lib.itoa n).length):=by
 have key:∀(m first:Nat),m≤9007199254740991→s.drop first=Lib.decDigits m++r→QaE (nx s first)=true∧nx s first≠45∧Qa0 s first (s.length+1) 0 first= .ok (m,first+(Lib.decDigits m).length)∧s.drop (first+(Lib.decDigits m).length)=r:=by
  intro m first hm hd
  obtain⟨v1,v2⟩:=Qmq m
  have hl:=at_len hd
  obtain⟨d,ds,hh⟩:∃d ds,Lib.decDigits m=d::ds:=by
   cases hx:Lib.decDigits m with
   |nil=>exact absurd hx (by intro hx;have:=congrArg List.length hx;rw[Lib.decDigits]at this;split at this<;>simp at this)
   |cons d ds=>exact⟨d,ds,rfl⟩
  have hnx:nx s first=d:=Qfw (r:=ds++r) (by rw[hd,hh];rfl)
  have hdd:QaE d=true:=v2 d (by rw[hh];simp)
  refine⟨by rw[hnx];exact hdd, ?_, ?_,Qei hd⟩
  ·rw[hnx];rintro rfl;cases hdd
  ·have:=Qjh (s:=s) (first:=first) (ends_dig hr) (Lib.decDigits m) (s.length+1) 0 first v2 hd (by omega) (by
    by_cases h0:m=0
    ·right;right
     refine⟨rfl,48, ?_⟩
     subst h0;rw[Lib.decDigits_one (by omega)];rfl
    ·left
     obtain⟨d',ds',q1,q2⟩:=dec_head m (by omega)
     rw[hh]at q1
     injection q1 with q1
     rw[hnx,q1];exact q2) (by rw[v1];exact hm)
   rw[v1]at this
   exact this
 unfold QaZ
 unfold Lib.itoa at h⊢
 by_cases hn:n<0
 ·rw[if_pos hn]at h⊢
  have h0:nx s p=45:=Qfw (r:=Lib.decDigits n.natAbs++r) h
  obtain⟨k1,k2,k3,k4⟩:=key n.natAbs (p+1) (by omega) (QaR h)
  simp only[h0,if_true,k1,k3]
  have h3:¬(9007199254740991<n.natAbs∨nx s (p+1+(Lib.decDigits n.natAbs).length)=46∨nx s (p+1+(Lib.decDigits n.natAbs).length)=101∨nx s (p+1+(Lib.decDigits n.natAbs).length)=69):=by
   have:=Qqv hr k4
   intro h
   rcases h with h|h
   ·omega
   ·exact this h
  rw[if_neg h3,if_pos (by omega)]
  have e: -((n.natAbs:Nat):Int)=n:=by omega
  rw[e,List.length_cons]
  congr 2;omega
 ·rw[if_neg hn]at h⊢
  obtain⟨k1,k2,k3,k4⟩:=key n.toNat p (by omega) h
  simp only[k2,if_false,k1,if_true,k3]
  have h3:¬(9007199254740991<n.toNat∨nx s (p+(Lib.decDigits n.toNat).length)=46∨nx s (p+(Lib.decDigits n.toNat).length)=101∨nx s (p+(Lib.decDigits n.toNat).length)=69):=by
   have:=Qqv hr k4
   intro h
   rcases h with h|h
   ·omega
   ·exact this h
  rw[if_neg h3,if_neg (by omega)]
  have e:((n.toNat:Nat):Int)=n:=by omega
  rw[e]
end
end Go.Proofs.YtmhmjlfajlpabaaDoor
namespace Go.Proofs.YtmhmjlfajlpabaaDoor
open Go Go.Abs
theorem QcL{j:J}(h:Qan j=true)(h4:j.k≠4)(h5:j.k≠5):j.ks= []∧j.l= []:=by
 have key:Qbj j=true→j.ks= []∧j.l= []:=fun h=>by
  unfold Qbj at h
  have:=of_decide_eq_true h
  exact⟨List.length_eq_zero_iff.1 (by omega),List.length_eq_zero_iff.1 (by omega)⟩
 unfold Qan at h
 split at h
 ·simp only[Bool.and_eq_true]at h;exact key h.1.1
 split at h
 ·simp only[Bool.and_eq_true]at h;exact key h.1.1
 split at h
 ·simp only[Bool.and_eq_true]at h;exact key h.1.1.1
 split at h
 ·simp only[Bool.and_eq_true]at h;exact key h.1.1
 first
 |cases h
 |(rw[if_neg h4,if_neg h5]at h;cases h)
theorem shaped_k{j:J}(h:Qan j=true):j.k=0∨j.k=1∨j.k=2∨j.k=3∨j.k=4∨j.k=5:=by
 by_cases h0:j.k=0;· exact .inl h0
 by_cases h1:j.k=1;· exact .inr (.inl h1)
 by_cases h2:j.k=2;· exact .inr (.inr (.inl h2))
 by_cases h3:j.k=3;· exact .inr (.inr (.inr (.inl h3)))
 by_cases h4:j.k=4;· exact .inr (.inr (.inr (.inr (.inl h4))))
 by_cases h5:j.k=5;· exact .inr (.inr (.inr (.inr (.inr h5))))
 unfold Qan at h
 rw[if_neg h0,if_neg h1,if_neg h2,if_neg h3,if_neg h4,if_neg h5]at h
 cases h
theorem shaped0{j:J}(h:Qan j=true)(hk:j.k=0):j= .mk 0 0 [] [] []:=by
 obtain⟨h1,h2⟩:=QcL h (by omega) (by omega)
 unfold Qan at h
 rw[if_pos hk]at h
 simp only[Bool.and_eq_true,decide_eq_true_eq]at h
 exact J.ext hk h.1.2 h.2 h1 h2
theorem shaped1{j:J}(h:Qan j=true)(hk:j.k=1):j= .mk 1 0 [] [] []∨j= .mk 1 1 [] [] []:=by
 obtain⟨h1,h2⟩:=QcL h (by omega) (by omega)
 unfold Qan at h
 rw[if_neg (by omega),if_pos hk]at h
 simp only[Bool.and_eq_true,Bool.or_eq_true,decide_eq_true_eq]at h
 rcases h.2 with h3|h3
 ·exact .inl (J.ext hk h3 h.1.2 h1 h2)
 ·exact .inr (J.ext hk h3 h.1.2 h1 h2)
theorem shaped2{j:J}(h:Qan j=true)(hk:j.k=2):j= .mk 2 j.n [] [] []∧-9007199254740991≤j.n∧j.n≤9007199254740991:=by
 obtain⟨h1,h2⟩:=QcL h (by omega) (by omega)
 have h3:=QfF h hk
 unfold Qan at h
 rw[if_neg (by omega),if_neg (by omega),if_pos hk]at h
 simp only[Bool.and_eq_true,decide_eq_true_eq]at h
 exact⟨J.ext hk rfl h.1.1.2 h1 h2,h3⟩
theorem Qpf{j:J}(h:Qan j=true)(hk:j.k=3):j= .mk 3 0 j.t [] []∧vB j.t=true:=by
 obtain⟨h1,h2⟩:=QcL h (by omega) (by omega)
 unfold Qan at h
 rw[if_neg (by omega),if_neg (by omega),if_neg (by omega),if_pos hk]at h
 simp only[Bool.and_eq_true,decide_eq_true_eq]at h
 exact⟨J.ext hk h.1.2 rfl h1 h2,h.2⟩
theorem Qpe{j:J}(h:Qan j=true)(hk:j.k=4):j= .mk 4 0 [] [] j.l:=by
 unfold Qan at h
 rw[if_neg (by omega),if_neg (by omega),if_neg (by omega),if_neg (by omega),if_pos hk]at h
 simp only[Bool.and_eq_true,decide_eq_true_eq]at h
 exact J.ext hk h.1.2 h.2 (List.length_eq_zero_iff.1 h.1.1) rfl
theorem QjE{j:J}(h:Qan j=true)(hk:j.k=5):j= .mk 5 0 [] j.ks j.l∧j.ks.length=j.l.length∧j.ks.Nodup∧∀k∈j.ks,vB k=true:=by
 have h0:=Qcf h hk
 unfold Qan at h
 rw[if_neg (by omega),if_neg (by omega),if_neg (by omega),if_neg (by omega),if_neg (by omega),if_pos hk]at h
 simp only[Bool.and_eq_true,decide_eq_true_eq,Qbr]at h
 exact⟨J.ext hk h.1.1.2 h.1.2 rfl rfl,h0.1,h0.2,fun k hk=>List.all_eq_true.1 h.2.1 k hk⟩
def Qfx(c:UInt8):Prop:=Qaj c=false∧c≠93∧c≠125∧c≠44
theorem QnV{c:UInt8}(h:QaE c=true):Qfx c:=by
 simp only[QaE,Bool.and_eq_true,decide_eq_true_eq]at h
 refine⟨?_, ?_, ?_, ?_⟩
 ·cases hb:Qaj c with
  |false=>rfl
  |true=>
   simp only[Qaj,Bool.or_eq_true,beq_iff_eq]at hb
   rcases hb with((rfl|rfl)|rfl)|rfl<;>simp at h
 all_goals(rintro rfl;simp at h)
theorem QnB(m:Nat):∃d ds,Lib.decDigits m=d::ds∧QaE d=true:=by
 obtain⟨_,v2⟩:=Qmq m
 cases hx:Lib.decDigits m with
 |nil=>exact absurd hx (by intro hx;have:=congrArg List.length hx;rw[Lib.decDigits]at this;split at this<;>simp at this)
 |cons d ds=>exact⟨d,ds,rfl,v2 d (by rw[hx];simp)⟩
theorem QcI(j:J):∃c r,QaT j=c::r∧Qfx c:=by
 rw[Qcw]
 split
 ·split
  ·exact⟨116,_,rfl,by unfold Qfx;decide⟩
  ·exact⟨102,_,rfl,by unfold Qfx;decide⟩
 split
 ·unfold Lib.itoa
  split
  ·exact⟨45,_,rfl,by unfold Qfx;decide⟩
  ·obtain⟨d,ds,h1,h2⟩:=QnB j.n.toNat
   exact⟨d,ds,h1,QnV h2⟩
 split
 ·exact⟨34,_,rfl,by unfold Qfx;decide⟩
 split
 ·exact⟨91,_,rfl,by unfold Qfx;decide⟩
 split
 ·exact⟨123,_,rfl,by unfold Qfx;decide⟩
 ·exact⟨110,_,rfl,by unfold Qfx;decide⟩
theorem Qfo(E:List Tx)(c:UInt8)(hc:c=93∨c=125)(r:Tx):Ends (Qa7 E++c::r):=by
 intro d r' e
 cases E with
 |nil=>simp[Qa7]at e;rw[←e.1];rcases hc with rfl|rfl<;>simp
 |cons a E=>simp[Qa7]at e;rw[←e.1];simp
section
variable {s:Tx}
theorem QgM{first:Bool}{c:UInt8}(hc:Qaj c=false){p:Nat}{r:Tx}(h:s.drop p=c::r):QbI s first c p= .ok (false,p+1):=by
 unfold QbI
 simp only
 rw[Qcl h hc,QbW h,if_pos rfl]
theorem Qi2{e c:UInt8}(hc:Qaj c=false)(hne:c≠e){p:Nat}{r:Tx}(h:s.drop p=c::r):QbI s true e p= .ok (true,p):=by
 unfold QbI
 simp only
 rw[Qcl h hc,QbW h,if_neg (by simpa using hne)];rfl
theorem QkR{e c:UInt8}(he:(44:UInt8)≠e)(hc:Qaj c=false){p:Nat}{r:Tx}(h:s.drop p=44::c::r):QbI s false e p= .ok (true,p+1):=by
 unfold QbI
 simp only
 rw[Qcl h (by rfl),QbW h,if_neg (by simpa using he),Qil h]
 simp only[Bool.false_eq_true,if_false]
 rw[Qcl (QaR h) hc]
theorem QkV{g deep:Nat}{r:Tx}(ih:∀(j:J),goodB g j=true→∀(f p:Nat) (r:Tx),s.drop p=QaT j++r→Ends r→2*(QaT j).length<f→QaB s f (deep+1) p= .ok (j,p+(QaT j).length)):
  ∀(l:List J) (f:Nat) (acc:List J) (p:Nat),(∀y∈l,goodB g y=true)→s.drop p=Qa7 (l.map QaT)++93::r→2*(Qa7 (l.map QaT)).length<f→
   Qbs s f deep false acc p= .ok (acc++l,p+(Qa7 (l.map QaT)).length+1)
 |_,0,_,_,_,_,h=>by omega
 | [],f+1,acc,p,_,h,_=>by
   unfold Qbs
   rw[QgM (r:=r) (by rfl) h]
   simp[Qa7]
 |y::l,f+1,acc,p,hg,h,hf=>by
  obtain⟨c,r',e,hb,h93,_,_⟩:=QcI y
  have h0:s.drop p=44::c::(r'++(Qa7 (l.map QaT)++93::r)):=by rw[h];simp[Qa7,e]
  have h1:s.drop (p+1)=QaT y++(Qa7 (l.map QaT)++93::r):=by rw[QaR h0,e];rfl
  have hlen:(Qa7 ((y::l).map QaT)).length=1+(QaT y).length+(Qa7 (l.map QaT)).length:=by simp[Qa7];omega
  have hv:=ih y (hg y (by simp)) f (p+1) _ h1 (Qfo _ 93 (.inl rfl) r) (by omega)
  unfold Qbs
  rw[QkR (by decide) hb h0]
  simp only
  rw[hv]
  simp only
  rw[QkV ih l f (acc++ [y]) (p+1+(QaT y).length) (fun z hz=>hg z (by simp[hz])) (Qei h1) (by omega),hlen]
  simp only[List.append_assoc,List.cons_append,List.nil_append]
  congr 2;omega
theorem QhT{g deep:Nat}{r:Tx}(ih:∀(j:J),goodB g j=true→∀(f p:Nat) (r:Tx),s.drop p=QaT j++r→Ends r→2*(QaT j).length<f→QaB s f (deep+1) p= .ok (j,p+(QaT j).length)):
  ∀(ks:List Tx) (l:List J) (f:Nat) (ka:List Tx) (la:List J) (p:Nat),ks.length=l.length→(ka++ks).Nodup→(∀y∈l,goodB g y=true)→s.drop p=Qa7 (List.zipWith QbU ks (l.map QaT))++125::r→2*(Qa7 (List.zipWith QbU ks (l.map QaT))).length<f→
   QaN s f deep false ka la p= .ok (ka++ks,la++l,p+(Qa7 (List.zipWith QbU ks (l.map QaT))).length+1)
 |_,_,0,_,_,_,_,_,_,_,h=>by omega
 | [],[],f+1,ka,la,p,_,_,_,h,_=>by
   unfold QaN
   rw[QgM (r:=r) (by rfl) h]
   simp[Qa7]
 |k::ks,y::l,f+1,ka,la,p,hl,hn,hg,h,hf=>by
  obtain⟨c,r',e,hb,_,_,_⟩:=QcI y
  obtain⟨R,hR⟩:∃R,Qa7 (List.zipWith QbU ks (l.map QaT))++125::r=R:=⟨_,rfl⟩
  have h0:s.drop p=44::(QaK k++58::(QaT y++R)):=by rw[h,←hR];simp[Qa7,QbU]
  have h0':s.drop p=44::34::(k.flatMap Qb4++ [34]++58::(QaT y++R)):=by rw[h0];simp[QaK]
  have h1:s.drop (p+1)=QaK k++58::(QaT y++R):=QaR h0
  have h2:s.drop (p+1+(QaK k).length)=58::(QaT y++R):=Qei h1
  have h3:s.drop (p+1+(QaK k).length+1)=QaT y++R:=QaR h2
  have hlen:(Qa7 (List.zipWith QbU (k::ks) ((y::l).map QaT))).length=1+(QaK k).length+1+(QaT y).length+(Qa7 (List.zipWith QbU ks (l.map QaT))).length:=by simp[Qa7,QbU];omega
  have hv:=ih y (hg y (by simp)) f _ _ h3 (by rw[←hR];exact Qfo _ 125 (.inr rfl) r) (by omega)
  have hk:ka.contains k=false:=by
   cases hc:ka.contains k with
   |false=>rfl
   |true=>
    rw[List.contains_iff_mem]at hc
    rw[List.nodup_append]at hn
    exact absurd rfl (hn.2.2 k hc k (by simp))
  unfold QaN
  rw[QkR (by decide) (by rfl) h0']
  simp only
  rw[Qg6 h1]
  simp only[hk,Bool.false_eq_true,if_false]
  rw[Qcl h2 (by rfl),Qil h2]
  simp only
  rw[Qcl (c:=c) (r:=r'++R) (by rw[h3,e];rfl) hb,hv]
  simp only
  rw[QhT ih ks l f (ka++ [k]) (la++ [y]) _ (by simpa using hl) (by simpa using hn) (fun z hz=>hg z (by simp[hz])) (by rw[Qei h3,←hR]) (by omega),hlen]
  simp only[List.append_assoc,List.cons_append,List.nil_append]
  congr 3;omega
 | [],y::l,_,_,_,_,hl,_,_,_,_=>by simp at hl
 |k::ks,[],_,_,_,_,hl,_,_,_,_=>by simp at hl
theorem Qiy:∀(g:Nat) (j:J),goodB g j=true→∀(deep:Nat),deep+g≤13→∀(f p:Nat) (r:Tx),s.drop p=QaT j++r→Ends r→2*(QaT j).length<f→QaB s f deep p= .ok (j,p+(QaT j).length)
 |0,_,h=>by cases h
 |g+1,j,hg=>by
  intro deep hd f p r h hr hf
  obtain⟨hs,ha⟩:=Bool.and_eq_true_iff.1 (show(Qan j&&j.l.all (goodB g))=true from hg)
  have hall:∀y∈j.l,goodB g y=true:=fun y hy=>List.all_eq_true.1 ha y hy
  have ih:∀(y:J),goodB g y=true→∀(f p:Nat) (r:Tx),s.drop p=QaT y++r→Ends r→2*(QaT y).length<f→QaB s f (deep+1) p= .ok (y,p+(QaT y).length):=
   fun y hy=>Qiy g y hy (deep+1) (by omega)
  obtain⟨f,rfl⟩:∃f',f=f'+1:=⟨f-1,by omega⟩
  have hne:QaT j≠ []:=by obtain⟨c,r',e,_⟩:=QcI j;rw[e];simp
  unfold QaB
  rw[if_neg (by omega)]
  rcases shaped_k hs with hk|hk|hk|hk|hk|hk
  ·have e:=shaped0 hs hk
   have he:QaT j= [110,117,108,108]:=by rw[e,Qcw];rfl
   rw[he]at h⊢
   have hn:nx s p=110:=Qfw (r:= [117,108,108]++r) (by rw[h];rfl)
   rw[hn,Qj9 _ h,e]
   rfl
  ·have he:(QaT j= [116,114,117,101]∧j= .mk 1 1 [] [] [])∨(QaT j= [102,97,108,115,101]∧j= .mk 1 0 [] [] []):=by
    rcases shaped1 hs hk with e|e
    ·exact .inr ⟨by rw[e,Qcw];rfl,e⟩
    ·exact .inl ⟨by rw[e,Qcw];rfl,e⟩
   rcases he with⟨he,e⟩|⟨he,e⟩
   ·rw[he]at h⊢
    have hn:nx s p=116:=Qfw (r:= [114,117,101]++r) (by rw[h];rfl)
    rw[hn,Qj9 _ h,e]
    rfl
   ·rw[he]at h⊢
    have hn:nx s p=102:=Qfw (r:= [97,108,115,101]++r) (by rw[h];rfl)
    rw[hn,Qj9 _ h,e]
    rfl
  ·obtain⟨e,h1,h2⟩:=shaped2 hs hk
   have he:QaT j=Lib.itoa j.n:=by rw[Qcw,if_neg (by omega),if_pos hk]
   rw[he]at h⊢
   have hnum:=Ql5 h1 h2 hr h
   have hnx:QaE (nx s p)=true∨nx s p=45:=by
    unfold Lib.itoa at h
    split at h
    ·exact .inr (Qfw (r:=Lib.decDigits j.n.natAbs++r) h)
    ·obtain⟨d,ds,q1,q2⟩:=QnB j.n.toNat
     rw[q1]at h
     exact .inl (by rw[Qfw (r:=ds++r) h];exact q2)
   have hn:nx s p≠91∧nx s p≠123∧nx s p≠34∧nx s p≠110∧nx s p≠116∧nx s p≠102:=by
    generalize nx s p=c at hnx
    refine⟨?_, ?_, ?_, ?_, ?_, ?_⟩<;>(rintro rfl;rcases hnx with h|h<;>cases h)
   rw[if_neg hn.1,if_neg hn.2.1,if_neg hn.2.2.1,if_neg hn.2.2.2.1,if_neg hn.2.2.2.2.1,if_neg hn.2.2.2.2.2,hnum,←e]
  ·obtain⟨e,_⟩:=Qpf hs hk
   have he:QaT j=QaK j.t:=by rw[Qcw,if_neg (by omega),if_neg (by omega),if_pos hk]
   rw[he]at h⊢
   have hn:nx s p=34:=Qfw (r:=(j.t.flatMap Qb4++ [34])++r) (by rw[h];rfl)
   rw[hn,if_neg (by decide),if_neg (by decide),if_pos rfl,Qg6 h]
   simp only
   rw[←e]
  ·have e:=Qpe hs hk
   have he:QaT j=91::(commas (j.l.map QaT)++ [93]):=by rw[Qcw,if_neg (by omega),if_neg (by omega),if_neg (by omega),if_pos hk]
   rw[he]at h hf⊢
   have h0:s.drop p=91::(commas (j.l.map QaT)++93::r):=by rw[h];simp
   have hn:nx s p=91:=Qfw h0
   have hl:Qbs s f deep true [] (p+1)= .ok (j.l,p+(91::(commas (j.l.map QaT)++ [93])).length):=by
    have h1:=QaR h0
    cases hjl:j.l with
    |nil=>
     rw[hjl]at h1
     obtain⟨f,rfl⟩:∃f',f=f'+1:=⟨f-1,by simp at hf;omega⟩
     unfold Qbs
     rw[QgM (r:=r) (by rfl) h1]
     rfl
    |cons y l=>
     rw[hjl]at h1 hf hall
     rw[List.map_cons,QcV]at h1 hf⊢
     obtain⟨c,r',ey,hb,h93,_,_⟩:=QcI y
     rw[List.append_assoc]at h1
     have hlen:(91::(QaT y++Qa7 (l.map QaT)++ [93])).length=2+(QaT y).length+(Qa7 (l.map QaT)).length:=by simp;omega
     rw[hlen]at hf⊢
     obtain⟨f,rfl⟩:∃f',f=f'+1:=⟨f-1,by omega⟩
     have hv:=ih y (hall y (by simp)) f (p+1) _ h1 (Qfo _ 93 (.inl rfl) r) (by omega)
     unfold Qbs
     rw[Qi2 (c:=c) (r:=r'++(Qa7 (l.map QaT)++93::r)) hb h93 (by rw[h1,ey];rfl)]
     simp only
     rw[hv]
     simp only
     rw[List.nil_append,QkV ih l f [y] (p+1+(QaT y).length) (fun z hz=>hall z (by simp[hz])) (Qei h1) (by omega)]
     simp only[List.cons_append,List.nil_append]
     congr 2;omega
   rw[hn,if_pos rfl,hl]
   simp only
   rw[←e]
  ·obtain⟨e,hkl,hnd,_⟩:=QjE hs hk
   have he:QaT j=123::(commas (List.zipWith QbU j.ks (j.l.map QaT))++ [125]):=by rw[Qcw,if_neg (by omega),if_neg (by omega),if_neg (by omega),if_neg (by omega),if_pos hk]
   rw[he]at h hf⊢
   have h0:s.drop p=123::(commas (List.zipWith QbU j.ks (j.l.map QaT))++125::r):=by rw[h];simp
   have hn:nx s p=123:=Qfw h0
   have hl:QaN s f deep true [] [] (p+1)= .ok (j.ks,j.l,p+(123::(commas (List.zipWith QbU j.ks (j.l.map QaT))++ [125])).length):=by
    have h1:=QaR h0
    cases hjk:j.ks with
    |nil=>
     have hjl:j.l= []:=List.length_eq_zero_iff.1 (by rw[←hkl,hjk];rfl)
     rw[hjk,hjl]at h1
     rw[hjl]
     obtain⟨f,rfl⟩:∃f',f=f'+1:=⟨f-1,by simp at hf;omega⟩
     unfold QaN
     rw[QgM (r:=r) (by rfl) h1]
     rfl
    |cons k ks=>
     cases hjl:j.l with
     |nil=>rw[hjk,hjl]at hkl;simp at hkl
     |cons y l=>
      rw[hjk,hjl]at hkl h1 hf
      rw[hjl]at hall
      rw[hjk]at hnd
      rw[List.map_cons,List.zipWith_cons_cons,QcV]at h1 hf⊢
      obtain⟨c,r',ey,hb,_,_,_⟩:=QcI y
      obtain⟨R,hR⟩:∃R,Qa7 (List.zipWith QbU ks (l.map QaT))++125::r=R:=⟨_,rfl⟩
      have h1:s.drop (p+1)=QaK k++58::(QaT y++R):=by rw[h1,←hR];simp[QbU]
      have h1':s.drop (p+1)=34::(k.flatMap Qb4++ [34]++58::(QaT y++R)):=by rw[h1];simp[QaK]
      have h2:s.drop (p+1+(QaK k).length)=58::(QaT y++R):=Qei h1
      have h3:s.drop (p+1+(QaK k).length+1)=QaT y++R:=QaR h2
      have hlen:(123::(QbU k (QaT y)++Qa7 (List.zipWith QbU ks (l.map QaT))++ [125])).length=3+(QaK k).length+(QaT y).length+(Qa7 (List.zipWith QbU ks (l.map QaT))).length:=by simp[QbU];omega
      rw[hlen]at hf⊢
      obtain⟨f,rfl⟩:∃f',f=f'+1:=⟨f-1,by omega⟩
      have hv:=ih y (hall y (by simp)) f _ _ h3 (by rw[←hR];exact Qfo _ 125 (.inr rfl) r) (by omega)
      unfold QaN
      rw[Qi2 (by rfl) (by decide) h1']
      simp only
      rw[Qg6 h1]
      simp only[List.contains_nil,Bool.false_eq_true,if_false]
      rw[Qcl h2 (by rfl),Qil h2]
      simp only
      rw[Qcl (c:=c) (r:=r'++R) (by rw[h3,ey];rfl) hb,hv]
      simp only
      rw[List.nil_append,List.nil_append,QhT ih ks l f [k] [y] _ (by simpa using hkl) (by simpa using hnd) (fun z hz=>hall z (by simp[hz])) (by rw[Qei h3,←hR]) (by omega)]
      simp only[List.cons_append,List.nil_append]
      congr 3;omega
   rw[hn,if_neg (by decide),if_pos rfl,hl]
   simp only
   rw[←e]
end
end Go.Proofs.YtmhmjlfajlpabaaDoor
namespace Go.Proofs.YtmhmjlfajlpabaaDoor
open Go Go.Abs Go.Lib
def Let(x:Tx):Prop:=(dc x).2=x.length∧dc x≠(65533,1)
def U8(s:Tx):Prop:=∃X:List Tx,(∀x∈X,Let x)∧s=X.flatten
set_option maxRecDepth 100000 in
theorem Qll(N a b c d:Nat):∀r,decodeN r.2 a (if 1<r.2 then b else 0) (if 2<r.2 then c else 0) (if 3<r.2 then d else 0)=r→r≠(65533,1)→r.2≤N→decodeN N a b c d=r:=by
 rintro⟨v,k⟩ e hr hN
 simp only at e hN
 have hk:k=1∨k=2∨k=3∨k=4:=by
  have:=congrArg Prod.snd e
  unfold decodeN at this
  (repeat' split at this)<;>simp only at this<;>omega
 rcases hk with rfl|rfl|rfl|rfl<;>simp only[Nat.lt_irrefl,Nat.reduceLT,if_true,if_false]at e<;>unfold decodeN at e⊢<;>(repeat' split at e)<;>(first|(simp only[Prod.mk.injEq]at e;omega)|(simp only[Prod.mk.injEq]at e;obtain⟨rfl,_⟩:=e;first|exact absurd rfl hr|(repeat' split)<;>first|rfl|(exfalso;omega)))
theorem let_app{x:Tx}(h:Let x)(r:Tx):dc (x++r)=dc x:=by
 have hx:x≠ []:=by rintro rfl;have:=Qfp [];rw[h.1]at this;simp at this
 have e:dc x=decodeN (dc x).2 (by' (x++r) 0) (if 1<(dc x).2 then by' (x++r) 1 else 0) (if 2<(dc x).2 then by' (x++r) 2 else 0) (if 3<(dc x).2 then by' (x++r) 3 else 0):=by
  have hb:∀j,by' x j=if j<x.length then by' (x++r) j else 0:=fun j=>by
   conv=>lhs;rw[show x=(x++r).take x.length by simp]
   rw[Qie]
  have h0:0<x.length:=List.length_pos_iff.2 hx
  rw[h.1]
  show decodeN x.length (by' x 0) (by' x 1) (by' x 2) (by' x 3)=_
  rw[hb 0,hb 1,hb 2,hb 3,if_pos h0]
 exact Qll _ _ _ _ _ (dc x) e.symm h.2 (by rw[h.1];simp)
theorem let_ne{x:Tx}(h:Let x):x≠ []:=by rintro rfl;have:=Qfp [];rw[h.1]at this;simp at this
theorem Qnh{s:Tx}(h:s≠ [])(hd:dc s≠(65533,1)):Let (s.take (dc s).2):=by
 have h1:=dc_le h
 exact⟨by rw[QqD h,List.length_take,Nat.min_eq_left h1],by rw[QqD h];exact hd⟩
theorem U8.nil:U8 []:=⟨[],by simp,rfl⟩
theorem U8.cons{x r:Tx}(hx:Let x)(hr:U8 r):U8 (x++r):=by
 obtain⟨X,h1,rfl⟩:=hr
 exact⟨x::X,by simpa using⟨hx,h1⟩,rfl⟩
theorem U8.app{a b:Tx}(ha:U8 a)(hb:U8 b):U8 (a++b):=by
 obtain⟨X,h1,rfl⟩:=ha
 obtain⟨Y,h2,rfl⟩:=hb
 exact⟨X++Y,fun x hx=>(List.mem_append.1 hx).elim (h1 x) (h2 x),by simp⟩
theorem U8.ind{M:Tx→Prop}(h0:M [])(h1:∀x r,Let x→U8 r→M r→M (x++r)):∀ {s:Tx},U8 s→M s:=by
 rintro s ⟨X,h,rfl⟩
 induction X with
 |nil=>exact h0
 |cons x X ih=>
  have hX:∀y∈X,Let y:=fun y hy=>h y (by simp[hy])
  exact h1 x X.flatten (h x (by simp)) ⟨X,hX,rfl⟩ (ih hX)
theorem QpW{c:UInt8}(h:c.toNat<128):Let [c]:=by
 have:dc [c]=(c.toNat,1):=by
  show decodeN 1 c.toNat 0 0 0=_
  unfold decodeN;rw[if_pos h]
 exact⟨by rw[this];rfl,by rw[this];intro e;injection e with e;omega⟩
theorem U8.one{c:UInt8}(h:c.toNat<128){r:Tx}(hr:U8 r):U8 (c::r):=U8.cons (QpW h) hr
theorem U8.ascii:∀ {l:Tx},(∀c∈l,c.toNat<128)→U8 l
 | [],_=>U8.nil
 |c::l,h=>U8.one (h c (by simp)) (U8.ascii fun d hd=>h d (by simp[hd]))
theorem QhA{x:Tx}(h:Let x):(∃c,x= [c]∧c.toNat<128)∨(2≤x.length∧∀c∈x,128≤c.toNat):=by
 have hg:Good x:=⟨let_ne h,h.1⟩
 rcases Qov hg with⟨a,rfl,ha,_⟩|⟨a,rfl,ha,hl⟩|⟨a,b,rfl,h1,h2,_⟩|⟨a,b,c,rfl,h1,h2,h3,_⟩|⟨a,b,c,d,rfl,h1,h2,h3,h4,_⟩
 ·exact .inl ⟨a,rfl,ha⟩
 ·exfalso
  unfold let1 at hl
  rw[if_neg h.2]at hl
  injection hl with _ hl;cases hl
 ·refine .inr ⟨by simp, ?_⟩
  intro x hx;simp at hx;rcases hx with rfl|rfl<;>omega
 ·refine .inr ⟨by simp, ?_⟩
  intro x hx;simp at hx;rcases hx with rfl|rfl|rfl<;>omega
 ·refine .inr ⟨by simp, ?_⟩
  intro x hx;simp at hx;rcases hx with rfl|rfl|rfl|rfl<;>omega
theorem U8.step{s:Tx}(h:s≠ []):U8 s↔dc s≠(65533,1)∧U8 (s.drop (dc s).2):=by
 constructor
 ·rintro⟨X,hX,rfl⟩
  cases X with
  |nil=>exact absurd rfl h
  |cons x X=>
   have hx:=hX x (by simp)
   have e:dc (List.flatten (x::X))=dc x:=by rw[List.flatten_cons];exact let_app hx _
   rw[e]
   refine⟨hx.2,X,fun y hy=>hX y (by simp[hy]), ?_⟩
   rw[hx.1,List.flatten_cons,List.drop_left]
 ·rintro⟨h1,h2⟩
  have:=U8.cons (Qnh h h1) h2
  rwa [List.take_append_drop]at this
theorem decL_dc(l:List UInt8):Lib.decodeL l=dc l:=by
 have:=Qh2 l 0
 rw[List.drop_zero]at this
 rw[←this];rfl
theorem QoV:∀(n:Nat) (s:Tx),s.length≤n→(Lib.validGoD n s=true↔U8 s)
 |0,s,h=>by
  have:s= []:=List.length_eq_zero_iff.1 (by omega)
  subst this
  exact⟨fun _=>U8.nil,fun _=>rfl⟩
 |n+1,s,h=>by
  unfold Lib.validGoD
  by_cases hs:s= []
  ·subst hs;exact⟨fun _=>U8.nil,fun _=>rfl⟩
  ·have h2:=Qfp s
   have h3:=List.length_pos_iff.2 hs
   rw[if_neg hs,U8.step hs,decL_dc]
   by_cases hd:dc s=(65533,1)
   ·rw[if_pos (by rw[hd];exact⟨rfl,rfl⟩)]
    exact⟨fun h=>(by cases h),fun h=>absurd hd h.1⟩
   ·rw[if_neg (fun e=>hd (Prod.ext e.1 e.2)),QoV n _ (by rw[List.length_drop];omega)]
    exact⟨fun h=>⟨hd,h⟩,fun h=>h.2⟩
theorem QmN(s:Tx):vB s=true↔U8 s:=QoV _ s (Nat.le_refl _)
theorem Qb3:∀(f:Nat) (s:Tx) (p:Nat),s.length-p<f→(QbD s f p= -1↔U8 (s.drop p))∧(-1≤QbD s f p)∧(QbD s f p≠-1→(p:Int)≤QbD s f p∧QbD s f p<s.length)
 |0,_,_,h=>by omega
 |f+1,s,p,h=>by
  unfold QbD
  by_cases hp:p<s.length
  ·have hne:s.drop p≠ []:=by intro e;have:=congrArg List.length e;rw[List.length_drop]at this;simp at this;omega
   rw[if_pos hp,U8.step hne,Qh2]
   have h2:=Qfp (s.drop p)
   by_cases hd:dc (s.drop p)=(65533,1)
   ·rw[if_pos hd]
    refine⟨⟨fun h=>by omega,fun h=>absurd hd h.1⟩,by omega,fun _=>by omega⟩
   ·rw[if_neg hd]
    obtain⟨i1,i2,i3⟩:=Qb3 f s (p+(dc (s.drop p)).2) (by omega)
    rw[i1,List.drop_drop]
    exact⟨⟨fun h=>⟨hd,h⟩,fun h=>h.2⟩,i2,fun hne=>by have:=i3 hne;omega⟩
  ·rw[if_neg hp]
   have:s.drop p= []:=List.drop_eq_nil_of_le (by omega)
   rw[this]
   exact⟨⟨fun _=>U8.nil,fun _=>rfl⟩,by omega,fun h=>absurd rfl h⟩
theorem Qci(s:Tx):Qaw s= -1↔U8 s:=by
 have:=(Qb3 (s.length+1) s 0 (by omega)).1
 rwa [List.drop_zero]at this
theorem U8.split{a r:Tx}{c:UInt8}(hc:c.toNat<128)(h:U8 (a++c::r)):U8 a∧U8 r:=by
 obtain⟨X,hX,e⟩:=h
 induction X generalizing a with
 |nil=>simp at e
 |cons x X ih=>
  have hx:=hX x (by simp)
  have hX':∀y∈X,Let y:=fun y hy=>hX y (by simp[hy])
  rw[List.flatten_cons]at e
  by_cases hl:x.length≤a.length
  ·obtain⟨a',rfl⟩:∃a',a=x++a':=by
    refine⟨a.drop x.length, ?_⟩
    have e1:=congrArg (List.take x.length) e
    rw[List.take_append_of_le_length hl,List.take_left]at e1
    conv=>lhs;rw[←List.take_append_drop x.length a,e1]
   rw[List.append_assoc]at e
   obtain⟨h1,h2⟩:=ih hX' (List.append_cancel_left e)
   exact⟨U8.cons hx h1,h2⟩
  ·have hmem:c∈x:=by
    have e1:=congrArg (fun l=>l[a.length]?) e
    simp only[List.getElem?_append_right (Nat.le_refl a.length),Nat.sub_self,List.getElem?_cons_zero]at e1
    rw[List.getElem?_append_left (by omega)]at e1
    exact List.mem_of_getElem? e1.symm
   rcases QhA hx with⟨d,rfl,hd⟩|⟨h1,h2⟩
   ·have ha:a= []:=List.length_eq_zero_iff.1 (by have:¬1≤a.length:=hl;omega)
    subst ha
    simp at e
    exact⟨U8.nil,X,hX',e.2⟩
   ·have:=h2 c hmem;omega
theorem U8.tail{c:UInt8}{r:Tx}(hc:c.toNat<128)(h:U8 (c::r)):U8 r:=(U8.split (a:= []) hc h).2
theorem Qi7:∀n:Fin 16,(QgN n.val).toNat<128:=by decide
theorem Qqs(c:UInt8)(h:c.toNat<128):∀d∈Qb4 c,d.toNat<128:=by
 have h1:=Qi7 ⟨c.toNat/16 % 16,by omega⟩
 have h2:=Qi7 ⟨c.toNat % 16,by omega⟩
 have e:c.toNat<32→c.toNat/16 % 16=c.toNat/16:=fun h=>by omega
 intro d hd
 unfold Qb4 at hd
 split at hd
 ·simp at hd;rcases hd with rfl|rfl
  ·decide
  ·exact h
 split at hd
 ·simp at hd;rcases hd with rfl|rfl<;>decide
 split at hd
 ·simp at hd;rcases hd with rfl|rfl<;>decide
 split at hd
 ·simp at hd;rcases hd with rfl|rfl<;>decide
 split at hd
 ·simp at hd;rcases hd with rfl|rfl<;>decide
 split at hd
 ·simp at hd;rcases hd with rfl|rfl<;>decide
 split at hd
 ·rename_i h32
  simp only[e h32]at h1
  simp at hd
  rcases hd with rfl|rfl|rfl|rfl|rfl
  ·decide
  ·decide
  ·decide
  ·exact h1
  ·exact h2
 ·simp at hd;rw[hd];exact h
theorem esc_big{c:UInt8}(h:128≤c.toNat):Qb4 c= [c]:=by
 have hne:∀d:UInt8,d.toNat<128→c≠d:=fun d hd e=>by rw[e]at h;omega
 unfold Qb4
 rw[if_neg (by intro e;rcases e with e|e<;>exact hne _ (by decide) e),if_neg (hne _ (by decide)),if_neg (hne _ (by decide)),if_neg (hne _ (by decide)),if_neg (hne _ (by decide)),if_neg (hne _ (by decide)),if_neg (by omega)]
theorem Qnw:∀ {x:Tx},(∀c∈x,128≤c.toNat)→x.flatMap Qb4=x
 | [],_=>rfl
 |c::x,h=>by
  rw[List.flatMap_cons,esc_big (h c (by simp)),Qnw fun d hd=>h d (by simp[hd])];rfl
theorem U8.esc{t:Tx}(h:U8 t):U8 (t.flatMap Qb4):=by
 refine U8.ind (M:=fun t=>U8 (t.flatMap Qb4)) U8.nil (fun x r hx _ ih=> ?_) h
 rw[List.flatMap_append]
 refine U8.app ?_ ih
 rcases QhA hx with⟨c,rfl,hc⟩|⟨_,h2⟩
 ·exact U8.ascii (by simpa using Qqs c hc)
 ·rw[Qnw h2]
  have:=U8.cons hx U8.nil
  rwa [List.append_nil]at this
theorem U8.quote{t:Tx}(h:U8 t):U8 (QaK t):=U8.one (by decide) (U8.app h.esc (U8.ascii (by simp)))
theorem U8.commas:∀ {E:List Tx},(∀e∈E,U8 e)→U8 (commas E)
 | [],_=>U8.nil
 | [a],h=>h a (by simp)
 |a::b::E,h=>U8.app (h a (by simp)) (U8.one (by decide) (U8.commas fun e he=>h e (by simp[he])))
theorem Qlm(m:Nat):∀c∈Lib.decDigits m,c.toNat<128:=by
 intro c hc
 have:=(Qmq m).2 c hc
 simp only[QaE,Bool.and_eq_true,decide_eq_true_eq]at this
 omega
theorem U8.itoa(n:Int):U8 (Lib.itoa n):=by
 unfold Lib.itoa
 split
 ·exact U8.one (by decide) (U8.ascii (Qlm _))
 ·exact U8.ascii (Qlm _)
theorem QkS:∀ {ks:List Tx} {l:List J} {e:Tx},e∈List.zipWith QbU ks (l.map QaT)→∃k y,k∈ks∧y∈l∧QbU k (QaT y)=e
 | [],_,_,h=>by simp at h
 |_::_,[],_,h=>by simp at h
 |k::ks,y::l,e,h=>by
  rw[List.map_cons,List.zipWith_cons_cons]at h
  rcases List.mem_cons.1 h with rfl|h
  ·exact⟨k,y,by simp,by simp,rfl⟩
  ·obtain⟨k',y',h1,h2,h3⟩:=QkS h
   exact⟨k',y',by simp[h1],by simp[h2],h3⟩
theorem enc_u8:∀(g:Nat) (j:J),goodB g j=true→U8 (QaT j)
 |0,_,h=>by cases h
 |g+1,j,hg=>by
  obtain⟨hs,ha⟩:=Bool.and_eq_true_iff.1 (show(Qan j&&j.l.all (goodB g))=true from hg)
  have hall:∀y∈j.l,U8 (QaT y):=fun y hy=>enc_u8 g y (List.all_eq_true.1 ha y hy)
  rw[Qcw]
  split
  ·split<;>exact U8.ascii (by decide)
  split
  ·exact U8.itoa _
  split
  ·rename_i hk
   exact((QmN _).1 (Qpf hs hk).2).quote
  split
  ·refine U8.one (by decide) (U8.app (U8.commas fun e he=> ?_) (U8.ascii (by decide)))
   obtain⟨y,hy,rfl⟩:=List.mem_map.1 he
   exact hall y hy
  split
  ·rename_i hk
   obtain⟨_,_,_,hv⟩:=QjE hs hk
   refine U8.one (by decide) (U8.app (U8.commas fun e he=> ?_) (U8.ascii (by decide)))
   obtain⟨k,y,h1,h2,rfl⟩:=QkS he
   exact U8.app ((QmN _).1 (hv k h1)).quote (U8.one (by decide) (hall y h2))
  ·exact U8.ascii (by decide)
theorem mk_k(k n:Int)(t:Tx)(ks:List Tx)(l:List J):(J.mk k n t ks l).k=k:=rfl
theorem mk_n(k n:Int)(t:Tx)(ks:List Tx)(l:List J):(J.mk k n t ks l).n=n:=rfl
theorem mk_t(k n:Int)(t:Tx)(ks:List Tx)(l:List J):(J.mk k n t ks l).t=t:=rfl
theorem mk_ks(k n:Int)(t:Tx)(ks:List Tx)(l:List J):(J.mk k n t ks l).ks=ks:=rfl
theorem mk_l(k n:Int)(t:Tx)(ks:List Tx)(l:List J):(J.mk k n t ks l).l=l:=rfl
theorem QfO(ks:List Tx):((Qar ks).map fun i=>ks.getD i []).Perm ks:=by
 have h:=(Qa1 ks).map fun i=>ks.getD i []
 rwa [Qbv]at h
theorem QiU(ks:List Tx)(l:List J)(h:ks.length=l.length):((Qar ks).map fun i=>l.getD i J.zero).Perm l:=by
 have h':=(Qa1 ks).map fun i=>l.getD i J.zero
 rwa [h,Qbv]at h'
theorem Qhq{j:J}(h5:j.k=5):Qaf j= .mk j.k j.n j.t ((Qar j.ks).map fun i=>j.ks.getD i []) ((Qar j.ks).map fun i=>(j.l.map Qaf).getD i J.zero):=by rw[Qb8,if_pos h5]
theorem QfQ{j:J}(h5:j.k≠5):Qaf j= .mk j.k j.n j.t [] (j.l.map Qaf):=by rw[Qb8,if_neg h5]
theorem Qm8{k n:Int}{t:Tx}{ks:List Tx}{l:List J}(h5:k=5):Qaf (.mk k n t ks l)= .mk k n t ((Qar ks).map fun i=>ks.getD i []) ((Qar ks).map fun i=>(l.map Qaf).getD i J.zero):=Qhq (j:= .mk k n t ks l) h5
theorem Qhp{k n:Int}{t:Tx}{ks:List Tx}{l:List J}(h5:k≠5):Qaf (.mk k n t ks l)= .mk k n t [] (l.map Qaf):=QfQ (j:= .mk k n t ks l) h5
theorem QiI{ks:List Tx}{l:List J}(hl:ks.length=l.length)(hd:ks.Nodup)(hv:∀k∈ks,vB k=true):Qan (.mk 5 0 [] ks l)=true:=by
 show(decide (ks.length=l.length)&&decide ((0:Int)=0)&&decide (([]:Tx)= [])&&Qbr ks)=true
 simp only[Bool.and_eq_true,decide_eq_true_eq,Qbr]
 exact⟨⟨⟨hl,trivial⟩,trivial⟩,List.all_eq_true.2 hv,hd⟩
theorem QfZ:∀(g:Nat) (j:J),goodB g j=true→goodB g (Qaf j)=true
 |0,_,h=>by cases h
 |g+1,j,hg=>by
  obtain⟨hs,ha⟩:=Bool.and_eq_true_iff.1 (show(Qan j&&j.l.all (goodB g))=true from hg)
  have hall:∀y∈j.l,goodB g (Qaf y)=true:=fun y hy=>QfZ g y (List.all_eq_true.1 ha y hy)
  have hmap:∀z∈j.l.map Qaf,goodB g z=true:=fun z hz=>by obtain⟨y,hy,rfl⟩:=List.mem_map.1 hz;exact hall y hy
  show(Qan (Qaf j)&&(Qaf j).l.all (goodB g))=true
  rw[Bool.and_eq_true_iff]
  by_cases h5:j.k=5
  ·obtain⟨e,hl,hd,hv⟩:=QjE hs h5
   rw[Qhq h5]
   have hp:=QfO j.ks
   have hn:j.n=0:=by rw[e];rfl
   have ht:j.t= []:=by rw[e];rfl
   refine⟨?_,List.all_eq_true.2 fun z hz=>hmap z ((QiU j.ks (j.l.map Qaf) (by simpa using hl)).mem_iff.1 hz)⟩
   rw[hn,ht,h5]
   exact QiI (by simp) (hp.nodup_iff.2 hd) fun k hk=>hv k (hp.mem_iff.1 hk)
  ·have hks:j.ks= []:=by
    by_cases h4:j.k=4
    ·rw[Qpe hs h4];rfl
    ·exact(QcL hs h4 h5).1
   rw[QfQ h5]
   refine⟨?_,List.all_eq_true.2 hmap⟩
   unfold Qan at hs⊢
   simp only[Qbj,hks]at hs
   simp only[mk_k,mk_n,mk_t,mk_ks,mk_l,Qbj,List.length_map]
   exact hs
theorem Qj7{ks:List Tx}(hd:ks.Nodup):Qar ((Qar ks).map fun i=>ks.getD i [])=List.range ks.length:=by
 have hp:=QfO ks
 have hl:((Qar ks).map fun i=>ks.getD i []).length=ks.length:=hp.length_eq
 have hg:=Qig hd
 have hlen:=QaV ks
 symm
 refine Qfs (hp.nodup_iff.2 hd) (by rw[hl]) ?_
 rw[List.pairwise_iff_getElem]
 intro i j hi hj hij
 simp only[List.length_range]at hi hj
 rw[List.getElem_range,List.getElem_range]
 have h:=List.pairwise_iff_getElem.1 hg i j (by omega) (by omega) hij
 have e:∀i,i<ks.length→Qct ((Qar ks).map fun i=>ks.getD i []) i=Qct ks ((Qar ks)[i]?.getD 0):=by
  intro i hi
  unfold Qct
  simp[List.getD,hlen,hi]
 unfold leK
 rw[e i hi,e j hj,List.getElem?_eq_getElem (by omega),List.getElem?_eq_getElem (by omega)]
 simp only[Option.getD_some]
 exact fun h'=>absurd (List.lt_trans h h') (List.lt_irrefl _)
theorem QfP:∀(g:Nat) (j:J),goodB g j=true→Qaf (Qaf j)=Qaf j
 |0,_,h=>by cases h
 |g+1,j,hg=>by
  obtain⟨hs,ha⟩:=Bool.and_eq_true_iff.1 (show(Qan j&&j.l.all (goodB g))=true from hg)
  have hall:∀y∈j.l,Qaf (Qaf y)=Qaf y:=fun y hy=>QfP g y (List.all_eq_true.1 ha y hy)
  have hmap:∀l:List J,(∀z∈l,z∈j.l.map Qaf)→l.map Qaf=l:=fun l hl=>by
   conv=>rhs;rw[←List.map_id l]
   refine List.map_congr_left fun z hz=> ?_
   obtain⟨y,hy,rfl⟩:=List.mem_map.1 (hl z hz)
   exact hall y hy
  by_cases h5:j.k=5
  ·obtain⟨e,hl,hd,hv⟩:=QjE hs h5
   have hp:=QiU j.ks (j.l.map Qaf) (by simpa using hl)
   have hk:=QfO j.ks
   rw[Qhq h5,Qm8 h5]
   rw[Qj7 hd,hmap _ fun z hz=>hp.mem_iff.1 hz]
   congr 1
   ·rw[←hk.length_eq,Qbv]
   ·rw[show j.ks.length=((Qar j.ks).map fun i=>(j.l.map Qaf).getD i J.zero).length by rw[List.length_map,QaV],Qbv]
  ·rw[QfQ h5,Qhp h5]
   rw[hmap _ fun z hz=>hz]
theorem QoG{j:J}(h:goodB 12 j=true)(hl:¬16384<(QaT j).length):QaA (QaT j)= .ok (Qaf j):=by
 unfold QaA
 have hb:=(Qci _).2 (enc_u8 12 j h)
 obtain⟨c,r,e,hc,_⟩:=QcI j
 have hbl:Qac (QaT j) 0=0:=Qcl (c:=c) (r:=r) (by rw[List.drop_zero,e]) hc
 have hv:=Qiy (s:=QaT j) 12 j h 1 (by omega) (2*(QaT j).length+3) 0 [] (by simp) (by intro c r' e;cases e) (by omega)
 rw[if_neg hl,hb,if_neg (by omega),hbl,hv]
 simp only
 have hb2:Qac (QaT j) (0+(QaT j).length)=(QaT j).length:=by rw[Nat.zero_add];exact QqW (by simp)
 rw[hb2,if_neg (Nat.lt_irrefl _)]
theorem QdI{j:J}(h:goodB 12 j=true)(hl:¬16384<(QaT (Qaf j)).length):QaA (QaT (Qaf j))= .ok (Qaf j):=by
 rw[QoG (QfZ 12 j h) hl,QfP 12 j h]
theorem apart{x y:J}(hx:goodB 12 x=true)(hy:goodB 12 y=true)(lx:¬16384<(QaT (Qaf x)).length)(ly:¬16384<(QaT (Qaf y)).length):
  QaT (Qaf x)=QaT (Qaf y)↔Qaf x=Qaf y:=by
 refine⟨fun e=> ?_,fun e=>by rw[e]⟩
 have h1:=QdI hx lx
 rw[e,QdI hy ly]at h1
 injection h1 with h1
 exact h1.symm
theorem QcC(lim:Nat)(H:Qaa):Ev (QaH code Qaq) 11 lim [] H (boolD true) H:=Qde (F:=QqU) rfl rfl
theorem Qe4(lim:Nat)(H:Qaa){a:J}(ha:wt a≤100000000000):Ev (QaH code Qaq) 14 lim [.d a.d,.d a.d] H (boolD true) H:=by
 have:=QmF (wt a) lim H a a (Nat.le_refl _) ha ha
 rwa [sJ_self]at this
theorem Qlf{j:J}{e:Tx}(h:QbB j= .ok e):goodB 12 j=true∧e=QaT (Qaf j)∧¬16384<(QaT (Qaf j)).length:=by
 unfold QbB at h
 split at h
 ·rename_i hg
  split at h
  ·cases h
  ·rename_i hl
   injection h with h
   exact⟨hg,h.symm,hl⟩
 ·cases h
theorem Qjg{j:J}{c:Nat}(h:QbB j= .error c):((c:Int) !=0)=true:=by
 have key:(c:Int)≠0→((c:Int) !=0)=true:=fun h=>by simpa using h
 refine key ?_
 unfold QbB at h
 split at h
 ·split at h
  ·injection h with h;omega
  ·cases h
 ·injection h with h;omega
theorem QcU(lim:Nat)(H:Qaa)(s:Tx):Ev (QaH code Qaq) 10 lim [.d (.slice (s.map byteD))] H (QbC (QaA s)) H:=Qde (F:=Qh1) rfl (by
 unfold Qh1
 simp only[Qid,QeV,Option.map_some])
theorem QqX(lim:Nat)(H:Qaa)(x y:J):Ev (QaH code Qaq) 4 lim [.d x.d,.d y.d] H (boolD true) H:=by
 refine Fn.ev ?_
 refine Qa2 (pn rfl) rfl (show code 4=some c4 from rfl) rfl ?_;simp only[List.length_cons,List.length_nil,List.cons_append,List.nil_append,simprocAttr]
 have hxd:=jd x
 have hyd:=jd y
 obtain⟨K,hK⟩:∃K,H++ [AObj.cells (jC x)]++ [AObj.cells (jC y)]=K:=⟨_,rfl⟩
 have gX:K[H.length]? =some (.cells (jC x)):=by rw[←hK];simp
 have gY:K[H.length+1]? =some (.cells (jC y)):=by rw[←hK];simp
 have hn:(H++ [AObj.cells (jC x)]).length=H.length+1:=by simp
 have hsx:=QmT H.length K x
 have hsy:=QmT H.length K y
 rw[hxd]at hsx
 rw[hyd]at hsy
 refine w_r (j_ hxd (j_ hyd (j_ hK (j_ hn (j_ gX gY))))) ?_
 by_cases hfx:¬0≤Qbm 30 x 2000
 ·rw[decide_eq_false hfx]at hsx
  refine w_1 hsx (j_ gX gY) ?_
  refine w_r trivial ?_
  exact Qad (vs:= [boolD true]) rfl rfl ⟨rfl,rfl⟩
 replace hfx:=Decidable.not_not.1 hfx
 by_cases hfy:¬0≤Qbm 30 y 2000
 ·rw[decide_eq_true hfx]at hsx
  rw[decide_eq_false hfy]at hsy
  refine w_2 hsx hsy (j_ gX gY) ?_
  refine w_r trivial ?_
  exact Qad (vs:= [boolD true]) rfl rfl ⟨rfl,rfl⟩
 replace hfy:=Decidable.not_not.1 hfy
 rw[decide_eq_true hfx]at hsx
 rw[decide_eq_true hfy]at hsy
 have hwx:wt x≤100000000000:=by have:=few_wt hfx;omega
 have hwy:wt y≤100000000000:=by have:=few_wt hfy;omega
 have a1:=Qfz H.length K x hwx
 have a2:=Qfz H.length K y hwy
 have a8:=QcC H.length K
 rw[hxd]at a1
 rw[hyd]at a2
 refine w_2 hsx hsy (j_ gX gY) ?_
 refine w_r trivial ?_
 cases hex:QbB x with
 |error c=>
  have hc:=Qjg hex
  rw[hex]at a1
  simp only[Qqw]at a1
  refine w_1 a1 gX ?_
  refine Qlz ?_
  cases hey:QbB y with
  |error d=>
   rw[hey]at a2
   simp only[Qqw]at a2
   refine w_1 a2 gY ?_
   refine w_r hc ?_
   refine w_1 a8 trivial ?_
   refine w_r trivial ?_
   exact Qad (vs:= [boolD true]) rfl rfl ⟨rfl,rfl⟩
  |ok d=>
   rw[hey]at a2
   simp only[Qqw]at a2
   refine w_1 a2 gY ?_
   refine w_r hc ?_
   refine w_1 a8 trivial ?_
   refine w_r trivial ?_
   exact Qad (vs:= [boolD true]) rfl rfl ⟨rfl,rfl⟩
 |ok e=>
  rw[hex]at a1
  simp only[Qqw]at a1
  refine w_1 a1 gX ?_
  refine Qlz ?_
  cases hey:QbB y with
  |error d=>
   have hc:=Qjg hey
   rw[hey]at a2
   simp only[Qqw]at a2
   refine w_1 a2 gY ?_
   refine w_r hc ?_
   refine w_1 a8 trivial ?_
   refine w_r trivial ?_
   exact Qad (vs:= [boolD true]) rfl rfl ⟨rfl,rfl⟩
  |ok d=>
   obtain⟨hgx,ex,lx⟩:=Qlf hex
   obtain⟨hgy,ey,ly⟩:=Qlf hey
   have hap:=apart hgx hgy lx ly
   rw[←ex,←ey]at hap
   have hox:Qgk x=Qaf x:=by unfold Qgk;rw[if_pos hgx]
   have hoy:Qgk y=Qaf y:=by unfold Qgk;rw[if_pos hgy]
   have wx:=QgA (Qfj hgx)
   have wy:=QgA (Qfj hgy)
   rw[hey]at a2
   simp only[Qqw]at a2
   have a3:=Qip H.length K x hwx
   have a4:=Qip H.length K y hwy
   have a5:=QmF (wt (Qaf x)) H.length K (Qaf x) (Qaf y) (Nat.le_refl _) (by omega) (by omega)
   rw[hox,hxd]at a3
   rw[hoy,hyd]at a4
   have eq:(e==d)=sJ (Qaf x) (Qaf y):=by
    rw[Bool.eq_iff_iff,Qku,beq_iff_eq];exact hap
   have hod:=jd (Qaf x)
   have hoe:=jd (Qaf y)
   rw[hod,hoe]at a5
   rw[hod]at a3
   rw[hoe]at a4
   generalize sJ (Qaf x) (Qaf y)=B at*
   refine w_1 a2 gY ?_
   refine w_r trivial ?_
   (apply QlA;focus(refine Evl.call (X:=(QaH code Qaq)) (a3) (Evl.call (X:=(QaH code Qaq)) (a4) (Evl.call (X:=(QaH code Qaq)) (a5) (Evl.call (X:=(QaH code Qaq)) (a8) (Evl.all fun k e4 e3 e2 e1=> ?_))));simp(maxSteps:=100000000) only[zz,zd,simprocAttr,gX,gY,eq,e4,e3,e2,e1];(first|done|with_reducible exact rfl)))<;>(try simp only[zp,simprocAttr])
   refine w_r trivial ?_
   exact Qad (vs:= [boolD true]) rfl rfl ⟨rfl,rfl⟩
abbrev jA(j:J):AV:= .d (.agg [.int .i64 j.k,.int .i64 j.n,.str j.t,sD j.ks,jsD j.l])
theorem QoN(lim:Nat)(H:Qaa)(x y:J):Ev (QaH code Qaq) 4 lim [jA x,jA y] H (boolD true) H:=by have:=QqX lim H x y;rwa [jd,jd]at this
theorem Qo7{k:Nat}(h:k<256):tab0[k]? =some (.int .u8 (firstT k:Nat)):=by
 have:=tab0_get h
 rw[List.getElem?_drop,Nat.add_zero]at this;exact this
theorem tab1_eq:tab1=(List.range 16).flatMap fun i=> [.int .u8 (accLo i:Nat),.int .u8 (accHi i:Nat)]:=by kernel_rfl
theorem pairs_at{f g:Nat→D}:∀(n i:Nat),i<n→((List.range n).flatMap fun i=> [f i,g i])[2*i]? =some (f i)∧((List.range n).flatMap fun i=> [f i,g i])[2*i+1]? =some (g i):=by
 have hlen:∀n,((List.range n).flatMap fun i=> [f i,g i]).length=2*n:=fun n=>by
  induction n with
  |zero=>rfl
  |succ n ih=>rw[List.range_succ,List.flatMap_append,List.length_append,ih];simp;omega
 intro n
 induction n with
 |zero=>intro i hi;omega
 |succ n ih=>
  intro i hi
  rw[List.range_succ,List.flatMap_append]
  by_cases h:i<n
  ·obtain⟨a,b⟩:=ih i h
   rw[List.getElem?_append_left (by rw[hlen];omega),List.getElem?_append_left (by rw[hlen];omega)]
   exact⟨a,b⟩
  ·obtain rfl:i=n:=by omega
   rw[List.getElem?_append_right (by rw[hlen];omega),List.getElem?_append_right (by rw[hlen];omega),hlen,Nat.sub_self,show 2*i+1-2*i=1 from by omega]
   exact⟨rfl,rfl⟩
theorem QjC(i:Nat)(h:i<16):tab1[2*i]? =some (.int .u8 (accLo i:Nat))∧tab1[2*i+1]? =some (.int .u8 (accHi i:Nat)):=by
 rw[tab1_eq];exact pairs_at 16 i h
def Pow10(w:World):Prop:=∀k,k<20→w.cell? ⟨3,k,none⟩=some (.int .u64 ((10^k:Nat):Int))
theorem tabOK_of{w:World}(h:Lib.Utf8Tabs 0 1 w)(h2:Pow10 w):QlB w:=by
 intro n cs hn
 obtain⟨h0,h1⟩:=h
 simp only[Tab.tab]at hn
 by_cases n0:n=0
 ·subst n0
  rw[if_pos rfl]at hn
  cases hn
  have hl:tab0.length=256:=by rw[QlL];simp
  refine VR.pref tab0 0 0 (fun k=> .int .u8 (firstT k:Nat)) ?_ (fun k hk=> ?_) (fun k c hk=> ?_)
  ·intro c hc
   rw[QlL]at hc
   obtain⟨_,_,rfl⟩:=List.mem_map.1 hc
   rfl
  ·rw[Nat.zero_add]
   have:=h0 k (by omega)
   exact⟨QcW this,this⟩
  ·have hk2:k<256:=by have:=(List.getElem?_eq_some_iff.1 hk).1;omega
   rw[Qo7 hk2]at hk
   cases hk
   exact .int _ _
 ·rw[if_neg n0]at hn
  by_cases n1:n=1
  ·subst n1
   rw[if_pos rfl]at hn
   cases hn
   have hl:tab1.length=32:=rfl
   refine VR.pref tab1 1 0 (fun k=>if k % 2=0 then .int .u8 (accLo (k/2))else .int .u8 (accHi (k/2))) ?_ (fun k hk=> ?_) (fun k c hk=> ?_)
   ·intro c hc
    have:tab1.all D.isCell=true:=rfl
    exact List.all_eq_true.1 this c hc
   ·rw[Nat.zero_add]
    have:=h1 (k/2) (by omega)
    by_cases e:k % 2=0
    ·simp only[if_pos e]
     have e2:2*(k/2)=k:=by omega
     rw[e2]at this
     exact⟨QcW this.1,this.1⟩
    ·simp only[if_neg e]
     have e2:2*(k/2)+1=k:=by omega
     rw[e2]at this
     exact⟨QcW this.2,this.2⟩
   ·have hk2:k<32:=by have:=(List.getElem?_eq_some_iff.1 hk).1;omega
    have:=QjC (k/2) (by omega)
    by_cases e:k % 2=0
    ·simp only[if_pos e]
     have e2:2*(k/2)=k:=by omega
     simp only[e2]at this
     rw[this.1]at hk;cases hk;exact .int _ _
    ·simp only[if_neg e]
     have e2:2*(k/2)+1=k:=by omega
     simp only[e2]at this
     rw[this.2]at hk;cases hk;exact .int _ _
  ·rw[if_neg n1]at hn
   by_cases n3:n=3
   ·subst n3
    rw[if_pos rfl]at hn
    cases hn
    have hl:tab3.length=20:=rfl
    refine VR.pref tab3 3 0 (fun k=> .int .u64 ((10^k:Nat):Int)) ?_ (fun k hk=> ?_) (fun k c hk=> ?_)
    ·intro c hc
     obtain⟨_,_,rfl⟩:=List.mem_map.1 hc
     rfl
    ·rw[Nat.zero_add]
     have:=h2 k (by omega)
     exact⟨QcW this,this⟩
    ·have hk2:k<20:=by have:=(List.getElem?_eq_some_iff.1 hk).1;omega
     unfold tab3 at hk
     rw[List.getElem?_map,List.getElem?_range hk2]at hk
     cases hk;exact .int _ _
   ·rw[if_neg n3]at hn;cases hn
def ren:Go.Shelf.Ren:=⟨fun x=>x,fun t=>if t=119 then 89 else if t=138 then 91 else if t=139 then 92 else t,fun g=>g-3⟩
theorem types:U8Types Tryd.prog ren:=⟨by kernel_rfl,by kernel_rfl,by kernel_rfl,by kernel_rfl⟩
theorem extra:U8Extra Tryd.prog ren:=⟨by kernel_rfl,by kernel_rfl,by kernel_rfl,by kernel_rfl,by kernel_rfl,by kernel_rfl,by kernel_rfl⟩
theorem first_eq:Go.Pinned.utf8First=firstData:=by kernel_rfl
theorem Qq0:(Rows.laid_unicode_utf8_acceptRanges:DataW Unit)=acceptData:=by kernel_rfl
def Qds:List (String×DataW Unit):= [("math/bits.deBruijn32tab",Rows.laid_math_bits_deBruijn32tab),("math/bits.deBruijn64tab",Rows.laid_math_bits_deBruijn64tab),("internal/strconv.uint64pow10",Rows.laid_internal_strconv_uint64pow10),("unicode/utf8.acceptRanges",Rows.laid_unicode_utf8_acceptRanges),("unicode/utf8.first",Rows.laid_unicode_utf8_first)]
theorem pow_eq:(Rows.laid_internal_strconv_uint64pow10:DataW Unit)=tabData .u64 pow10Tab:=by kernel_rfl
theorem pow_of{w:World}(h:VarReads Tryd.prog w "internal/strconv.uint64pow10" (tabData .u64 pow10Tab)):Pow10 w:=by
 obtain⟨g,t,cs,fuel,p,h1,h2,h3,h4⟩:=h
 have e1:Tryd.prog.globalNamed "internal/strconv.uint64pow10" =some 3:=by kernel_rfl
 rw[e1]at h1
 cases h1
 have e2:(Tryd.prog.globals[3]?).map (·.type)=some 127:=by kernel_rfl
 rw[e2]at h2
 cases h2
 have hc:=cells_of_tab (n:=20) (e:=98) (by kernel_rfl) (by kernel_rfl) (by kernel_rfl) (by kernel_rfl) h4
 have hti:TabIs Tryd.prog w "internal/strconv.uint64pow10" .u64 pow10Tab:=by
  unfold TabIs
  rw[h3,←hc]
 intro k hk
 have:=hti.cell e1 k (by rw[pow10Tab_length];exact hk)
 rwa [pow10Tab_at k hk]at this
theorem Qc6{w:World}(h:laidMet Tryd.prog Qds w):QlB w:=by
 have h5:=Lib.laidMet.reads h (n:= "internal/strconv.uint64pow10") (d:=Rows.laid_internal_strconv_uint64pow10) (by simp[Qds])
 rw[pow_eq]at h5
 refine tabOK_of ?_ (pow_of h5)
 have h3:=Lib.laidMet.reads h (n:= "unicode/utf8.first") (d:=Rows.laid_unicode_utf8_first) (by simp[Qds])
 have h4:=Lib.laidMet.reads h (n:= "unicode/utf8.acceptRanges") (d:=Rows.laid_unicode_utf8_acceptRanges) (by simp[Qds])
 have e:(Rows.laid_unicode_utf8_first:DataW Unit)=firstData:=first_eq
 rw[e]at h3
 rw[Qq0]at h4
 exact utf8Tabs_of_readsT types extra h3 h4
end Go.Proofs.YtmhmjlfajlpabaaDoor
namespace Go.Abs
open Go.RowKit
def Qgy(v v':Value)(s:Nat):Prop:=v'.ownBlock=v.ownBlock∨∃k,v'.ownBlock=some k∧s≤k
section
variable {P:Program} (w:World)
theorem Qhd(t ty e:TypeId)(i:TypeInfo)(z:Value)(size bytes:Nat)(ht:P.underlying t=some (.slice e))(hi:P.info? e=some i)(hz:i.zero=some z)
  (hsize:i.size=size)(hby:i.bytes=bytes)(hzs:z.cells.size=size)(hsz:0<size)
  (v:Value)(n:Nat)(xs:List Value)(hown:w.ownsRowF 0 e size v n xs)
  (a:Addr)(m c:Nat)(news:List Value)(hl:news.length=m*size)(hnews:∀j u,news[j]? =some u→w.cell? (a.add j)=some u)(h1:∀u∈news,u.oneCell'=true)
  (h63:n+m≤maxLen)(hbytes:(n+m)*bytes≤140737488355328):
  ∃v' w',(Builtin.append_ #[t,t] ty #[v,.slice (some a) m c]).run P w= .ok v' w'∧w'.ownsRowF 0 e size v' (n+m) (xs++news)∧w.grownBy w' v.ownBlock∧Qgy v v' w.heap.size:=by
 rcases hown.2 with⟨rfl,rfl⟩|⟨g,cap,cur,fz,rfl,hbg,hg,hfz,hnc,hcm,hcs,htake⟩
 ·have hown2:w.ownsRowF w.heap.size e size (.slice none 0 0) 0 xs:=⟨hown.1,.inl ⟨rfl,rfl⟩⟩
  obtain⟨v',w',r1,r2,r3,r4⟩:=run_append_ownF (P:=P) w w.heap.size t ty e i z size bytes ht hi hz hsize hby hzs hsz _ 0 xs hown2 a m c news hl hnews h1 h63 hbytes (Nat.le_refl _)
  refine⟨v',w',r1,⟨r2.1, ?_⟩,r3, ?_⟩
  ·rcases r2.2 with h|⟨g,cap,cur,fz,h1,h2,h3⟩
   ·exact .inl h
   ·exact .inr ⟨g,cap,cur,fz,h1,Nat.zero_le _,h3⟩
  ·rcases r2.2 with⟨h,_⟩|⟨g,cap,cur,fz,h1,h2,h3⟩
   ·exact .inl (by rw[h])
   ·exact .inr ⟨g,by rw[h1];rfl,h2⟩
 ·obtain⟨v',w',r1,r2,r3,r4⟩:=run_append_ownF (P:=P) w 0 t ty e i z size bytes ht hi hz hsize hby hzs hsz _ n xs hown a m c news hl hnews h1 h63 hbytes (Nat.zero_le _)
  refine⟨v',w',r1,r2,r3, ?_⟩
  subst hsize
  subst hby
  have hsmall:n+m≤9223372036854775807:=by simp only[maxLen]at h63;omega
  by_cases hroom:n+m≤cap
  ·have hfit:n*i.size+news.length≤cur.size:=by rw[hl,hcs,←Nat.add_mul];exact Nat.mul_le_mul_right _ hroom
   have hr:=run_append_roomF (P:=P) w t ty e i ht hi g n cap cur fz hg hfz a m c news hl hnews h1 hroom hfit
   rw[r1]at hr
   injection hr with hr _
   exact .inl (by rw[hr];rfl)
  ·have holds:∀j u,xs[j]? =some u→w.cell? ((⟨g,0,none⟩:Addr).add j)=some u:=hown.cells (g:=g) rfl
   have hr:=run_append_grow (P:=P) w t ty e i z ht hi hz ⟨g,0,none⟩ n cap xs hown.1 holds a m c news hl hnews (by omega) (by omega) (growslice_fits (by omega) hbytes)
   rw[r1]at hr
   injection hr with hr _
   exact .inr ⟨w.heap.size,by rw[hr];rfl,Nat.le_refl _⟩
theorem QaX{ops:Array Oper}{rest:List Oper}{o:Oper}{a:Act}{Q:Exit→Act→World→Prop}(hgd:o.guard=none)(s x:Operand)(t:TypeId)
  (ho:o.op= .call { callee:= .builtin .append,args:= #[s,x],argTypes:= #[t,t] })
  (e:TypeId)(i:TypeInfo)(z:Value)(size bytes:Nat)(ht:P.underlying t=some (.slice e))(hi:P.info? e=some i)(hz:i.zero=some z)
  (hsize:i.size=size)(hby:i.bytes=bytes)(hzs:z.cells.size=size)(hsz:0<size)
  (v:Value)(n:Nat)(xs:List Value)(hs:a.eval s=v)(hown:w.ownsRowF 0 e size v n xs)
  (ad:Addr)(m c:Nat)(news:List Value)(hx:a.eval x= .slice (some ad) m c)(hl:news.length=m*size)(hnews:∀j u,news[j]? =some u→w.cell? (ad.add j)=some u)(h1:∀u∈news,u.oneCell'=true)
  (h63:n+m≤maxLen)(hbytes:(n+m)*bytes≤140737488355328)
  (h:∀v' w',w'.ownsRowF 0 e size v' (n+m) (xs++news)→w.grownBy w' v.ownBlock→Qgy v v' w.heap.size→wpList P ops Q rest (a.put o.dst v') w'):wpList P ops Q (o::rest) a w:=by
 refine wpList_plain hgd fun K hK=> ?_
 obtain⟨v',w',hr,h2,h3,h4⟩:=Qhd (P:=P) w t o.type e i z size bytes ht hi hz hsize hby hzs hsz v n xs hown ad m c news hl hnews h1 h63 hbytes
 unfold Oper.wp execOp
 simp only[ho,resolve,invoke,builtin,Sem.run_bind,Sem.run_pure,Result.andThen_ok,List.map_toArray,List.map_cons,List.map_nil,hs,hx,hr]
 exact hK _ _ (h v' w' h2 h3 h4)
end
end Go.Abs
set_option maxHeartbeats 1000000
set_option linter.unusedVariables false
namespace Go.Proofs.YtmhmjlfajlpabaaDoor
open Go Go.Abs Go.Proofs Go.RowKit Go.Lib
theorem u76:Tryd.prog.underlying 76=some (.pointer 78):=by kernel_rfl
theorem u101:Tryd.prog.underlying 101=some .unsafePointer:=by kernel_rfl
theorem i78:∃j,Tryd.prog.info? 78=some j∧j.size=2:=by
 have h:(Tryd.prog.info? 78).map (·.size)=some 2:=by kernel_rfl
 obtain⟨j,h1,h2⟩:=Option.map_eq_some_iff.1 h
 exact⟨j,h1,h2⟩
theorem lies78:liesAt Tryd.prog Tryd.prog.depth 78 (2/Tryd.prog.cellsOf 78) 0 78 1=true:=by kernel_rfl
theorem cc_used(b:Nat)(w:World)(h0:w.cell? ⟨b,0,none⟩=some (.pointer (some ⟨b,0,none⟩))):
  Calls Tryd.prog 71 #[.pointer (some ⟨b,0,none⟩)] w fun e w'=>e= .returned (.tuple #[])∧w'=w:=by
 obtain⟨j,hj,hjs⟩:=i78
 go_enter Tryd.func71,Tryd.ntmps71
 go_wp2
 rw[Lib.run_neq_ptr_same w _ u76 hj]
 go_wp2
 go_end0
 exact⟨rfl,rfl⟩
theorem cc_fresh(b:Nat)(w:World)(h0:w.cell? ⟨b,0,none⟩=some (.pointer none))(hsh:w.shape? b=some (78,2))(hfz:w.frozen? ⟨b,0,none⟩=false):
  Calls Tryd.prog 71 #[.pointer (some ⟨b,0,none⟩)] w fun e w'=>e= .returned (.tuple #[])∧w'=w.setCell ⟨b,0,none⟩ (.pointer (some ⟨b,0,none⟩)):=by
 obtain⟨j,hj,hjs⟩:=i78
 go_enter Tryd.func71,Tryd.ntmps71
 go_wp2
 rw[Lib.run_to_unsafe w ⟨b,0,none⟩ u76 u101 hj (by rw[hjs];decide) hsh (Nat.zero_lt_succ 1)]
 simp only[Result.andThen]
 rw[Oper.upon_value]
 go_wp2
 rw[run_callFunc_extern Tryd.func79 (by kernel_rfl) (by kernel_rfl) (by kernel_rfl) (e:=Extern.AbiNoEscape.same) (by kernel_rfl)]
 rw[Lib.run_noEscape]
 simp only[Result.andThen]
 rw[Oper.upon_value]
 go_wp2
 rw[Lib.run_from_unsafe w ⟨b,0,none⟩ u101 u76 hj hsh lies78]
 simp only[Result.andThen]
 rw[Oper.upon_value]
 go_wp2
 go_end0
 exact⟨rfl,rfl⟩
theorem u22:Tryd.prog.underlying 22=some (.slice 5):=by kernel_rfl
theorem Qol:∃i:TypeInfo,Tryd.prog.info? 5=some i∧i.zero=some (.int .u8 0)∧i.size=1∧i.bytes=1:=info_parts (by kernel_rfl)
theorem ar1(v:Value)(n:Nat)(xs:List Value)(r:Int)(h0:0≤r)(h1:r≤127)(w:World)(hown:w.ownsRowF 0 5 1 v n xs)(hlen:n+4≤140737488355328):
  Calls Tryd.prog 72 #[v,.int .i32 r] w fun e w'=>∃v',e= .returned v'∧w'.ownsRowF 0 5 1 v' (n+1) (xs++ [.int .u8 r])∧(∃o,(w.alloc o).grownBy w' v.ownBlock)∧Qgy v v' w.heap.size:=by
 obtain⟨i0,hi,hz0,hz1,hz2⟩:=Qol
 go_enter Tryd.func72,Tryd.ntmps72
 go_wp2_with (at_builtin;refine QaX _ rfl _ _ 22 rfl 5 i0 (.int .u8 0) 1 1 u22 hi hz0 hz1 hz2 rfl (by decide) _ _ _ rfl (hown.alloc _) ⟨w.heap.size,0,none⟩ 1 1 [.int .u8 r] rfl rfl ?c1 ?c2 ?c3 ?c4 ?_)
 case c1=>
  intro j u hj
  match j,hj with
  |0,hj=>simp at hj;subst hj;simp[Addr.add]
  |(j+1),hj=>simp at hj
 case c2=>intro u hu;simp at hu;subst hu;rfl
 case c3=>unfold maxLen;omega
 case c4=>omega
 intro v' w2 hown' hgrow hrow
 go_wp2
 go_ret
 exact⟨_,rfl,hown',⟨_,hgrow⟩,hrow.imp_right fun⟨k,h1,h2⟩=>⟨k,h1,by omega⟩⟩
theorem ar2(v:Value)(n:Nat)(xs:List Value)(r:Int)(h0:128≤r)(h1:r≤2047)(w:World)(hown:w.ownsRowF 0 5 1 v n xs)(hlen:n+4≤140737488355328):
  Calls Tryd.prog 80 #[v,.int .i32 r] w fun e w'=>∃v',e= .returned v'∧w'.ownsRowF 0 5 1 v' (n+2) (xs++ [.int .u8 (192+r/64),.int .u8 (128+r % 64)])∧(∃o,(w.alloc o).grownBy w' v.ownBlock)∧Qgy v v' w.heap.size:=by
 obtain⟨i0,hi,hz0,hz1,hz2⟩:=Qol
 go_enter Tryd.func80,Tryd.ntmps80
 go_wp2_with (at_builtin;refine QaX _ rfl _ _ 22 rfl 5 i0 (.int .u8 0) 1 1 u22 hi hz0 hz1 hz2 rfl (by decide) _ _ _ rfl (hown.alloc _) ⟨w.heap.size,0,none⟩ 2 2 [.int .u8 (192+r/64),.int .u8 (128+r % 64)] rfl rfl ?c1 ?c2 ?c3 ?c4 ?_)
 case c1=>
  intro j u hj
  match j,hj with
  |0,hj=>simp at hj;subst hj;simp[Addr.add]
  |1,hj=>simp at hj;subst hj;simp[Addr.add]
  |(j+2),hj=>simp at hj
 case c2=>intro u hu;simp at hu;rcases hu with rfl|rfl<;>rfl
 case c3=>unfold maxLen;omega
 case c4=>omega
 intro v' w2 hown' hgrow hrow
 go_wp2
 go_ret
 exact⟨_,rfl,hown',⟨_,hgrow⟩,hrow.imp_right fun⟨k,h1,h2⟩=>⟨k,h1,by omega⟩⟩
theorem ar3(v:Value)(n:Nat)(xs:List Value)(r:Int)(h0:2048≤r)(h1:r<55296)(w:World)(hown:w.ownsRowF 0 5 1 v n xs)(hlen:n+4≤140737488355328):
  Calls Tryd.prog 80 #[v,.int .i32 r] w fun e w'=>∃v',e= .returned v'∧w'.ownsRowF 0 5 1 v' (n+3) (xs++ [.int .u8 (224+r/4096),.int .u8 (128+r/64 % 64),.int .u8 (128+r % 64)])∧(∃o,(w.alloc o).grownBy w' v.ownBlock)∧Qgy v v' w.heap.size:=by
 obtain⟨i0,hi,hz0,hz1,hz2⟩:=Qol
 go_enter Tryd.func80,Tryd.ntmps80
 go_wp2_with (at_builtin;refine QaX _ rfl _ _ 22 rfl 5 i0 (.int .u8 0) 1 1 u22 hi hz0 hz1 hz2 rfl (by decide) _ _ _ rfl (hown.alloc _) ⟨w.heap.size,0,none⟩ 3 3 [.int .u8 (224+r/4096),.int .u8 (128+r/64 % 64),.int .u8 (128+r % 64)] rfl rfl ?c1 ?c2 ?c3 ?c4 ?_)
 case c1=>
  intro j u hj
  match j,hj with
  |0,hj=>simp at hj;subst hj;simp[Addr.add]
  |1,hj=>simp at hj;subst hj;simp[Addr.add]
  |2,hj=>simp at hj;subst hj;simp[Addr.add]
  |(j+3),hj=>simp at hj
 case c2=>intro u hu;simp at hu;rcases hu with rfl|rfl|rfl<;>rfl
 case c3=>unfold maxLen;omega
 case c4=>omega
 intro v' w2 hown' hgrow hrow
 go_wp2
 go_ret
 exact⟨_,rfl,hown',⟨_,hgrow⟩,hrow.imp_right fun⟨k,h1,h2⟩=>⟨k,h1,by omega⟩⟩
theorem ar4(v:Value)(n:Nat)(xs:List Value)(r:Int)(h0:57343<r)(h1:r≤65535)(w:World)(hown:w.ownsRowF 0 5 1 v n xs)(hlen:n+4≤140737488355328):
  Calls Tryd.prog 80 #[v,.int .i32 r] w fun e w'=>∃v',e= .returned v'∧w'.ownsRowF 0 5 1 v' (n+3) (xs++ [.int .u8 (224+r/4096),.int .u8 (128+r/64 % 64),.int .u8 (128+r % 64)])∧(∃o,(w.alloc o).grownBy w' v.ownBlock)∧Qgy v v' w.heap.size:=by
 obtain⟨i0,hi,hz0,hz1,hz2⟩:=Qol
 go_enter Tryd.func80,Tryd.ntmps80
 go_wp2_with (at_builtin;refine QaX _ rfl _ _ 22 rfl 5 i0 (.int .u8 0) 1 1 u22 hi hz0 hz1 hz2 rfl (by decide) _ _ _ rfl (hown.alloc _) ⟨w.heap.size,0,none⟩ 3 3 [.int .u8 (224+r/4096),.int .u8 (128+r/64 % 64),.int .u8 (128+r % 64)] rfl rfl ?c1 ?c2 ?c3 ?c4 ?_)
 case c1=>
  intro j u hj
  match j,hj with
  |0,hj=>simp at hj;subst hj;simp[Addr.add]
  |1,hj=>simp at hj;subst hj;simp[Addr.add]
  |2,hj=>simp at hj;subst hj;simp[Addr.add]
  |(j+3),hj=>simp at hj
 case c2=>intro u hu;simp at hu;rcases hu with rfl|rfl|rfl<;>rfl
 case c3=>unfold maxLen;omega
 case c4=>omega
 intro v' w2 hown' hgrow hrow
 go_wp2
 go_ret
 exact⟨_,rfl,hown',⟨_,hgrow⟩,hrow.imp_right fun⟨k,h1,h2⟩=>⟨k,h1,by omega⟩⟩
theorem ar5(v:Value)(n:Nat)(xs:List Value)(r:Int)(h0:65536≤r)(h1:r≤1114111)(w:World)(hown:w.ownsRowF 0 5 1 v n xs)(hlen:n+4≤140737488355328):
  Calls Tryd.prog 80 #[v,.int .i32 r] w fun e w'=>∃v',e= .returned v'∧w'.ownsRowF 0 5 1 v' (n+4) (xs++ [.int .u8 (240+r/262144),.int .u8 (128+r/4096 % 64),.int .u8 (128+r/64 % 64),.int .u8 (128+r % 64)])∧(∃o,(w.alloc o).grownBy w' v.ownBlock)∧Qgy v v' w.heap.size:=by
 obtain⟨i0,hi,hz0,hz1,hz2⟩:=Qol
 go_enter Tryd.func80,Tryd.ntmps80
 go_wp2_with (at_builtin;refine QaX _ rfl _ _ 22 rfl 5 i0 (.int .u8 0) 1 1 u22 hi hz0 hz1 hz2 rfl (by decide) _ _ _ rfl (hown.alloc _) ⟨w.heap.size,0,none⟩ 4 4 [.int .u8 (240+r/262144),.int .u8 (128+r/4096 % 64),.int .u8 (128+r/64 % 64),.int .u8 (128+r % 64)] rfl rfl ?c1 ?c2 ?c3 ?c4 ?_)
 case c1=>
  intro j u hj
  match j,hj with
  |0,hj=>simp at hj;subst hj;simp[Addr.add]
  |1,hj=>simp at hj;subst hj;simp[Addr.add]
  |2,hj=>simp at hj;subst hj;simp[Addr.add]
  |3,hj=>simp at hj;subst hj;simp[Addr.add]
  |(j+4),hj=>simp at hj
 case c2=>intro u hu;simp at hu;rcases hu with rfl|rfl|rfl|rfl<;>rfl
 case c3=>unfold maxLen;omega
 case c4=>omega
 intro v' w2 hown' hgrow hrow
 go_wp2
 go_ret
 exact⟨_,rfl,hown',⟨_,hgrow⟩,hrow.imp_right fun⟨k,h1,h2⟩=>⟨k,h1,by omega⟩⟩
def Qhc(n:Nat):Prop:=n<55296∨57343<n∧n≤1114111
theorem QlS{n:Nat}(h:Qhc n):byteCells (Qco n)=if n<128 then [.int .u8 (n:Int)]else if n<2048 then [.int .u8 (192+(n:Int)/64),.int .u8 (128+(n:Int)% 64)]
  else if n<65536 then [.int .u8 (224+(n:Int)/4096),.int .u8 (128+(n:Int)/64 % 64),.int .u8 (128+(n:Int)% 64)]
  else [.int .u8 (240+(n:Int)/262144),.int .u8 (128+(n:Int)/4096 % 64),.int .u8 (128+(n:Int)/64 % 64),.int .u8 (128+(n:Int)% 64)]:=by
 have u:∀k:Nat,k<256→(UInt8.ofNat k).toNat=k:=fun k hk=>by simp;omega
 unfold Qhc at h
 unfold Qco byteCells
 split
 ·simp only[List.map_cons,List.map_nil,u n (by omega)]
 split
 ·simp only[List.map_cons,List.map_nil,u (192+n/64) (by omega),u (128+n % 64) (by omega)];rfl
 split
 ·simp only[List.map_cons,List.map_nil,u (224+n/4096) (by omega),u (128+n/64 % 64) (by omega),u (128+n % 64) (by omega)];rfl
 ·simp only[List.map_cons,List.map_nil,u (240+n/262144) (by omega),u (128+n/4096 % 64) (by omega),u (128+n/64 % 64) (by omega),u (128+n % 64) (by omega)];rfl
theorem ar_all(v:Value)(n:Nat)(xs:List Value)(r:Nat)(hr:Qhc r)(w:World)(hown:w.ownsRowF 0 5 1 v n xs)(hlen:n+4≤140737488355328):
  Calls Tryd.prog 72 #[v,.int .i32 r] w fun e w'=>∃v',e= .returned v'∧w'.ownsRowF 0 5 1 v' (n+(Qco r).length) (xs++byteCells (Qco r))∧(∃o,(w.alloc o).grownBy w' v.ownBlock)∧Qgy v v' w.heap.size:=by
 have hb:=QlS hr
 have hl:(Qco r).length=(byteCells (Qco r)).length:=(byteCells_length _).symm
 rw[hl,hb]
 have hr':=hr
 unfold Qhc at hr'
 have H:=Lib.hid hr'
 clear hr' hb hl hr
 by_cases c1:r<128
 ·rw[if_pos c1]
  exact ar1 v n xs r (by omega) (by omega) w hown hlen
 rw[if_neg c1]
 have e80:∀args w,(callFunc 80 args).run Tryd.prog w= .ok (.enter 80 args) w:=enters_of Tryd.func80 (by kernel_rfl) rfl
 have h80:∀l:List Value,(Calls Tryd.prog 80 #[v,.int .i32 r] w fun e w'=>∃v',e= .returned v'∧w'.ownsRowF 0 5 1 v' (n+l.length) (xs++l)∧(∃o,(w.alloc o).grownBy w' v.ownBlock)∧Qgy v v' w.heap.size)→
   Calls Tryd.prog 72 #[v,.int .i32 r] w fun e w'=>∃v',e= .returned v'∧w'.ownsRowF 0 5 1 v' (n+l.length) (xs++l)∧(∃o,(w.alloc o).grownBy w' v.ownBlock)∧Qgy v v' w.heap.size:=by
  intro l h
  have c1':(128:Int)≤(r:Int):=by omega
  have c2':(r:Int)≤1114111:=by have:=H.out;omega
  go_enter Tryd.func72,Tryd.ntmps72
  go_wp2_with (go_at_fn 80;refine h.mono ?_)
  rintro e w1 ⟨v',rfl,h1,h2,h3⟩
  go_wp2
  go_ret
  exact⟨_,rfl,h1,h2,h3⟩
 refine h80 _ ?_
 by_cases c2:r<2048
 ·rw[if_pos c2]
  exact ar2 v n xs r (by omega) (by omega) w hown hlen
 rw[if_neg c2]
 by_cases c3:r<65536
 ·rw[if_pos c3]
  by_cases c4:r<55296
  ·exact ar3 v n xs r (by omega) (by omega) w hown hlen
  ·exact ar4 v n xs r (by have:=H.out;omega) (by omega) w hown hlen
 ·rw[if_neg c3]
  exact ar5 v n xs r (by omega) (by have:=H.out;omega) w hown hlen
structure Mv (b:Nat) (row:Option Nat) (w w':World):Prop where
 os:w'.os=w.os
 tape:w'.tape=w.tape
 output:w'.output=w.output
 size:w.heap.size≤w'.heap.size
 block:∀k,k<w.heap.size→k≠b→some k≠row→w'.heap[k]? =w.heap[k]?
theorem Mv.refl(b:Nat)(row:Option Nat)(w:World):Mv b row w w:=⟨rfl,rfl,rfl,Nat.le_refl _,fun _ _ _ _=>rfl⟩
theorem Mv.set{b i:Nat}{row:Option Nat}{w w':World}(h:Mv b row w w')(v:Value):Mv b row w (w'.setCell ⟨b,i,none⟩ v) where
 os:=h.os
 tape:=h.tape
 output:=h.output
 size:=by simpa using h.size
 block k hk hb hr:=by rw[heap_setCell_other _ _ _ _ hb];exact h.block k hk hb hr
theorem Mv.of_grown{b:Nat}{row:Option Nat}{w w1 w':World}(h:Mv b row w w1)(o:Obj)(hg:(w1.alloc o).grownBy w' row):Mv b row w w' where
 os:=hg.os.trans h.os
 tape:=hg.tape.trans h.tape
 output:=hg.output.trans h.output
 size:=by have h1:=hg.size;have h2:=h.size;simp at h1;omega
 block k hk hb hr:=by
  have h2:=h.size
  rw[hg.block k (by simp;omega) hr,alloc_old w1 o k (by omega)]
  exact h.block k hk hb hr
def BAt(b:Nat)(p v:Value)(l:Tx)(w:World):Prop:=
 w.heap[b]? =some (.cells #[p,v] 78 (0,0))∧w.ownsRowF 0 5 1 v l.length (byteCells l)∧v.ownBlock≠some b∧(l= []→v= .slice none 0 0)
def Bld(b:Nat)(l:Tx)(row:Option Nat)(w:World):Prop:=∃p v,(p= .pointer none∨p= .pointer (some ⟨b,0,none⟩))∧BAt b p v l w∧v.ownBlock=row
theorem BAt.lt{b:Nat}{p v:Value}{l:Tx}{w:World}(h:BAt b p v l w):b<w.heap.size:=by
 rcases Nat.lt_or_ge b w.heap.size with h'|h'
 ·exact h'
 ·have:=h.1;simp[Array.getElem?_eq_none h']at this
theorem BAt.row_lt{b:Nat}{p v:Value}{l:Tx}{w:World}(h:BAt b p v l w){k:Nat}(hk:v.ownBlock=some k):k<w.heap.size:=by
 rcases h.2.1.2 with⟨rfl,_⟩|⟨g,cap,cur,fz,rfl,_,hg,_⟩
 ·simp[Value.ownBlock]at hk
 ·obtain rfl:g=k:=by simpa[Value.ownBlock]using hk
  rcases Nat.lt_or_ge g w.heap.size with h'|h'
  ·exact h'
  ·simp[Array.getElem?_eq_none h']at hg
theorem QjN{v:Value}{n:Nat}{xs:List Value}{w w':World}(h:w.ownsRowF 0 5 1 v n xs)(hk:∀k,v.ownBlock=some k→w'.heap[k]? =w.heap[k]?):w'.ownsRowF 0 5 1 v n xs:=by
 refine⟨h.1, ?_⟩
 rcases h.2 with h|⟨g,cap,cur,fz,rfl,h1,hg,h2⟩
 ·exact .inl h
 ·exact .inr ⟨g,cap,cur,fz,rfl,h1,by rw[hk g (by simp[Value.ownBlock])];exact hg,h2⟩
theorem Bld.kept{b:Nat}{l:Tx}{row:Option Nat}{w w':World}(h:Bld b l row w)(hb:w'.heap[b]? =w.heap[b]?)(hr:∀k,row=some k→w'.heap[k]? =w.heap[k]?):Bld b l row w':=by
 obtain⟨p,v,hp,⟨h1,h2,h3,h4⟩,h5⟩:=h
 exact⟨p,v,hp,⟨by rw[hb];exact h1,QjN h2 (fun k hk=>hr k (by rw[←h5];exact hk)),h3,h4⟩,h5⟩
theorem cc_any{b:Nat}{p v:Value}{l:Tx}{w:World}(hp:p= .pointer none∨p= .pointer (some ⟨b,0,none⟩))(h:BAt b p v l w):
  Calls Tryd.prog 71 #[.pointer (some ⟨b,0,none⟩)] w fun e w'=>e= .returned (.tuple #[])∧BAt b (.pointer (some ⟨b,0,none⟩)) v l w'∧w'.heap.size=w.heap.size∧Mv b v.ownBlock w w':=by
 obtain⟨h1,h2,h3,h4⟩:=h
 have c0:w.cell? ⟨b,0,none⟩=some p:=by rw[cell_of_heap h1];rfl
 rcases hp with rfl|rfl
 ·refine(cc_fresh b w c0 (by simp[World.shape?,h1]) (by simp[World.frozen?,h1])).mono ?_
  rintro e w' ⟨rfl,rfl⟩
  refine⟨rfl,⟨?_,QjN h2 (fun k hk=> ?_),h3,h4⟩,by simp,(Mv.refl _ _ _).set _⟩
  ·simp[World.setCell,Array.getElem?_modify,h1]
  ·exact heap_setCell_other _ _ _ _ (fun e=>h3 (by rw[hk,e]))
 ·refine(cc_used b w c0).mono ?_
  rintro e w' ⟨rfl,rfl⟩
  exact⟨rfl,⟨h1,h2,h3,h4⟩,rfl,Mv.refl _ _ _⟩
def Qq1(b:Nat)(l:Tx)(row:Option Nat)(w w':World):Prop:=∃row',Bld b l row' w'∧Mv b row w w'∧(row'=row∨∃k,row'=some k∧w.heap.size≤k)
theorem Qps{b:Nat}{v v':Value}{l l':Tx}{w1 w2:World}{o:Obj}(h:BAt b (.pointer (some ⟨b,0,none⟩)) v l w1)(hg:(w1.alloc o).grownBy w2 v.ownBlock)(hrow:Qgy v v' w1.heap.size)
  (hown:w2.ownsRowF 0 5 1 v' l'.length (byteCells l'))(hl:l'≠ []):Bld b l' v'.ownBlock (w2.setCell ⟨b,1,none⟩ v'):=by
 have hlt:=h.lt
 have hb2:w2.heap[b]? =some (.cells #[.pointer (some ⟨b,0,none⟩),v] 78 (0,0)):=by
  rw[hg.block b (by simp;omega) (fun e=>h.2.2.1 e.symm),alloc_old w1 _ b hlt]
  exact h.1
 have hne:v'.ownBlock≠some b:=by
  rcases hrow with e|⟨k,e,hk⟩
  ·rw[e];exact h.2.2.1
  ·rw[e];intro e2;injection e2 with e2;omega
 refine⟨_,v',.inr rfl,⟨?_,QjN hown (fun k hk=> ?_),hne,fun e=>absurd e hl⟩,rfl⟩
 ·simp[World.setCell,Array.getElem?_modify,hb2]
 ·exact heap_setCell_other _ _ _ _ (fun e=>hne (by rw[hk,e]))
theorem wb_any{b:Nat}{l:Tx}{row:Option Nat}{w:World}(c:UInt8)(h:Bld b l row w)(hlen:l.length+1≤140737488355328):
  Calls Tryd.prog 61 #[.pointer (some ⟨b,0,none⟩),.int .u8 c.toNat] w fun e w'=>e= .returned .nilIface∧Qq1 b (l++ [c]) row w w':=by
 obtain⟨i0,hi,hz0,hz1,hz2⟩:=Qol
 obtain⟨p,v,hp,hat,rfl⟩:=h
 have e71:∀args w,(callFunc 71 args).run Tryd.prog w= .ok (.enter 71 args) w:=enters_of Tryd.func71 (by kernel_rfl) rfl
 go_enter Tryd.func61,Tryd.ntmps61
 go_wp2_with (go_at_fn 71;refine(cc_any hp hat).mono ?_)
 rintro e w1 ⟨rfl,h1,hs1,m1⟩
 have HS:=Lib.hid hs1
 clear hs1
 have hbk:=h1.1
 have c0:w1.cell? ⟨b,0,none⟩=some (.pointer (some ⟨b,0,none⟩)):=by rw[cell_of_heap hbk];rfl
 have c1:w1.cell? ⟨b,1,none⟩=some v:=by rw[cell_of_heap hbk];rfl
 go_wp2_with (at_builtin;refine QaX _ rfl _ _ 22 rfl 5 i0 (.int .u8 0) 1 1 u22 hi hz0 hz1 hz2 rfl (by decide) _ _ _ rfl (h1.2.1.alloc _) ⟨w1.heap.size,0,none⟩ 1 1 [.int .u8 c.toNat] rfl rfl ?c1 ?c2 ?c3 ?c4 ?_)
 case c1=>
  intro j u hj
  match j,hj with
  |0,hj=>simp at hj;subst hj;simp[Addr.add]
  |(j+1),hj=>simp at hj
 case c2=>intro u hu;simp at hu;subst hu;rfl
 case c3=>unfold maxLen;omega
 case c4=>omega
 intro v' w2 hown' hgrow hrow
 have hrow':Qgy v v' w1.heap.size:=hrow.imp_right fun⟨k,h1,h2⟩=>⟨k,h1,by omega⟩
 have hlt:=h1.lt
 have hb2:w2.heap[b]? =some (.cells #[.pointer (some ⟨b,0,none⟩),v] 78 (0,0)):=by
  rw[hgrow.block b (by simp;omega) (fun e=>h1.2.2.1 e.symm),alloc_old w1 _ b hlt]
  exact hbk
 have d0:w2.cell? ⟨b,0,none⟩=some (.pointer (some ⟨b,0,none⟩)):=by rw[cell_of_heap hb2];rfl
 have d1:w2.cell? ⟨b,1,none⟩=some v:=by rw[cell_of_heap hb2];rfl
 have f1:w2.frozen? ⟨b,1,none⟩=false:=frozen_of_heap hb2 1
 have hput:=Qps (l':=l++ [c]) h1 hgrow hrow' (by simpa[byteCells]using hown') (by simp)
 have hmv:=(m1.of_grown _ hgrow).set (i:=1) v'
 obtain⟨g,cap,rfl⟩:∃g cap,v'= .slice (some ⟨g,0,none⟩) (l.length+1) cap:=by
  rcases hown'.2 with⟨_,h0⟩|⟨g,cap,cur,fz,hv,_⟩
  ·omega
  ·exact⟨g,cap,hv⟩
 have HP:=Lib.hid hput
 have HM:=Lib.hid hmv
 have HR:=Lib.hid hrow'
 clear hput hmv hrow' hrow hgrow hb2 hbk
 go_wp2
 go_ret
 exact⟨rfl,_,HP.out,HM.out,HR.out.imp_right fun⟨k,h1,h2⟩=>⟨k,h1,by have:=HS.out;omega⟩⟩
theorem wr_any{b:Nat}{l:Tx}{row:Option Nat}{w:World}(r:Nat)(hr:Qhc r)(h:Bld b l row w)(hlen:l.length+4≤140737488355328):
  Calls Tryd.prog 59 #[.pointer (some ⟨b,0,none⟩),.int .i32 r] w fun e w'=>(∃v,e= .returned v)∧Qq1 b (l++Qco r) row w w':=by
 obtain⟨p,v,hp,hat,rfl⟩:=h
 have e71:∀args w,(callFunc 71 args).run Tryd.prog w= .ok (.enter 71 args) w:=enters_of Tryd.func71 (by kernel_rfl) rfl
 have e72:∀args w,(callFunc 72 args).run Tryd.prog w= .ok (.enter 72 args) w:=enters_of Tryd.func72 (by kernel_rfl) rfl
 have hn:Qco r≠ []:=by unfold Qco;(repeat' split)<;>simp
 have hn0:0<(Qco r).length:=List.length_pos_iff.2 hn
 go_enter Tryd.func59,Tryd.ntmps59
 go_wp2_with (go_at_fn 71;refine(cc_any hp hat).mono ?_)
 rintro e w1 ⟨rfl,h1,hs1,m1⟩
 have HS:=Lib.hid hs1
 clear hs1
 obtain⟨ao,cap,rfl⟩:∃ao cap,v= .slice ao l.length cap:=by
  rcases h1.2.1.2 with⟨hv,h0⟩|⟨g,cap,cur,fz,hv,_⟩
  ·exact⟨none,0,by rw[hv,h0]⟩
  ·exact⟨_,_,hv⟩
 have hbk:=h1.1
 have c0:w1.cell? ⟨b,0,none⟩=some (.pointer (some ⟨b,0,none⟩)):=by rw[cell_of_heap hbk];rfl
 have c1:w1.cell? ⟨b,1,none⟩=some (.slice ao l.length cap):=by rw[cell_of_heap hbk];rfl
 have HB:=Lib.hid hbk
 clear hbk
 go_wp2_with (go_at_fn 72;refine(ar_all _ _ _ r hr _ h1.2.1 hlen).mono ?_)
 rintro e w2 ⟨v',rfl,hown',⟨o,hgrow⟩,hrow⟩
 have hlt:=h1.lt
 have hb2:w2.heap[b]? =some (.cells #[.pointer (some ⟨b,0,none⟩),.slice ao l.length cap] 78 (0,0)):=by
  rw[hgrow.block b (by simp;omega) (fun e=>h1.2.2.1 e.symm),alloc_old w1 _ b hlt]
  exact HB.out
 have d0:w2.cell? ⟨b,0,none⟩=some (.pointer (some ⟨b,0,none⟩)):=by rw[cell_of_heap hb2];rfl
 have d1:w2.cell? ⟨b,1,none⟩=some (.slice ao l.length cap):=by rw[cell_of_heap hb2];rfl
 have f1:w2.frozen? ⟨b,1,none⟩=false:=frozen_of_heap hb2 1
 have hput:=Qps (l':=l++Qco r) h1 hgrow hrow (by simpa[byteCells]using hown') (by simp[hn])
 have hmv:=(m1.of_grown _ hgrow).set (i:=1) v'
 obtain⟨g,cap',rfl⟩:∃g cap,v'= .slice (some ⟨g,0,none⟩) (l.length+(Qco r).length) cap:=by
  rcases hown'.2 with⟨_,h0⟩|⟨g,cap,cur,fz,hv,_⟩
  ·omega
  ·exact⟨g,cap,hv⟩
 have HP:=Lib.hid hput
 have HM:=Lib.hid hmv
 have HR:=Lib.hid hrow
 clear hput hmv hrow hgrow hb2
 go_wp2
 go_ret2
 exact⟨⟨_,rfl⟩,_,HP.out,HM.out,HR.out.imp_right fun⟨k,h1,h2⟩=>⟨k,h1,by have:=HS.out;omega⟩⟩
end Go.Proofs.YtmhmjlfajlpabaaDoor
set_option maxHeartbeats 2000000
set_option linter.unusedVariables false
namespace Go.Proofs.YtmhmjlfajlpabaaDoor
open Go Go.Abs Go.Proofs Go.RowKit Go.Lib
theorem QeN:Tryd.prog.follows .mixedOrders=true:=by kernel_rfl
theorem u93:Tryd.prog.underlying 93=some (.pointer 5):=by kernel_rfl
theorem cells5:Tryd.prog.cellsOf 5=1:=by kernel_rfl
theorem str_nil{b:Nat}{p:Value}{w:World}(hbk:w.heap[b]? =some (.cells #[p,.slice none 0 0] 78 (0,0))):
  Calls Tryd.prog 58 #[.pointer (some ⟨b,0,none⟩)] w fun e w'=>e= .returned (.string ⟨#[]⟩)∧w'=w.drew:=by
 have hUS:∀w',(Builtin.unsafeString_ #[93,3] 9 #[.pointer none,.int .i64 0]).run Tryd.prog w'= .ok (.string ⟨#[]⟩) w':=fun w'=>by rfl
 have hSD:∀w',(Builtin.unsafeSliceData_ #[22] 93 #[.slice none 0 0]).run Tryd.prog w'= .ok (.pointer none) w':=fun w'=>rfl
 have c1:w.drew.cell? ⟨b,1,none⟩=some (.slice none 0 0):=by
  have:w.drew.heap[b]? =some (.cells #[p,.slice none 0 0] 78 (0,0)):=hbk
  rw[cell_of_heap this];rfl
 clear hbk
 have QeN:=QeN
 go_enter Tryd.func58,Tryd.ntmps58
 go_wp2
 go_region_o
 all_goals(go_wp2;go_ret;exact⟨rfl,rfl⟩)
theorem str_row{b:Nat}{p:Value}{l:Tx}{w:World}{g cap:Nat}{cur:Array Value}{fz:Nat×Nat}(h0:l≠ [])(hbk:w.heap[b]? =some (.cells #[p,.slice (some ⟨g,0,none⟩) l.length cap] 78 (0,0)))
  (hown:w.ownsRowF 0 5 1 (.slice (some ⟨g,0,none⟩) l.length cap) l.length (byteCells l))(hg:w.heap[g]? =some (.cells cur 5 fz))(hnc:l.length≤cap)(hcm:cap≤maxLen)(hcs:cur.size=cap*1):
  Calls Tryd.prog 58 #[.pointer (some ⟨b,0,none⟩)] w fun e w'=>e= .returned (.string ⟨l.toArray⟩)∧w'=w.drew.freeze ⟨g,0,none⟩ l.length:=by
 have hl0:l.length≠0:=by simpa using h0
 have c1:w.drew.cell? ⟨b,1,none⟩=some (.slice (some ⟨g,0,none⟩) l.length cap):=by
  have:w.drew.heap[b]? =some (.cells #[p,.slice (some ⟨g,0,none⟩) l.length cap] 78 (0,0)):=hbk
  rw[cell_of_heap this];rfl
 have hSD:(Builtin.unsafeSliceData_ #[22] 93 #[.slice (some ⟨g,0,none⟩) l.length cap]).run Tryd.prog w.drew= .ok (.pointer (some ⟨g,0,none⟩)) w.drew:=
  run_unsafeSliceData_row _ _ _ _ _ _ (by omega)
 have hUS:(Builtin.unsafeString_ #[93,3] 9 #[.pointer (some ⟨g,0,none⟩),.int .i64 l.length]).run Tryd.prog w.drew= .ok (.string ⟨l.toArray⟩) (w.drew.freeze ⟨g,0,none⟩ l.length):=by
  refine run_unsafeString_row w.drew 93 3 9 5 u93 cells5 g cur.size (by have hg':w.drew.heap[g]? =some (.cells cur 5 fz):=hg;simp[World.shape?,hg']) l h0 (by omega) (by unfold maxLen at hcm;omega) ?_
  intro j x hx
  have:=hown.cells (g:=g) rfl j (.int .u8 x.toNat) (by simp[byteCells,hx])
  exact this
 clear hown hbk hg hl0 hcs
 have QeN:=QeN
 go_enter Tryd.func58,Tryd.ntmps58
 go_wp2
 go_region_o
 all_goals(go_wp2;go_ret;exact⟨rfl,rfl⟩)
theorem str_any{b:Nat}{l:Tx}{row:Option Nat}{w:World}(h:Bld b l row w):
  Calls Tryd.prog 58 #[.pointer (some ⟨b,0,none⟩)] w fun e w'=>e= .returned (.string ⟨l.toArray⟩)∧Mv b row w w':=by
 obtain⟨p,v,hp,⟨hbk,hown,hne,hnil⟩,rfl⟩:=h
 by_cases h0:l= []
 ·obtain rfl:=hnil h0
  subst h0
  refine(str_nil hbk).mono ?_
  rintro e w' ⟨rfl,rfl⟩
  exact⟨rfl,rfl,rfl,rfl,Nat.le_refl _,fun _ _ _ _=>rfl⟩
 ·have hown':=hown
  rcases hown.2 with⟨_,hz⟩|⟨g,cap,cur,fz,rfl,hbg,hg,hfz,hnc,hcm,hcs,htake⟩
  ·exact absurd (List.eq_nil_of_length_eq_zero hz) h0
  refine(str_row h0 hbk hown' hg hnc hcm hcs).mono ?_
  rintro e w' ⟨rfl,rfl⟩
  obtain⟨s1,s2,s3,s4⟩:=QhP w.drew ⟨g,0,none⟩ l.length
  refine⟨rfl,s1,s2,s3,Nat.le_of_eq s4.symm,fun k hk hb hr=> ?_⟩
  exact QhJ w.drew ⟨g,0,none⟩ l.length k (fun e=>hr (by rw[e];rfl))
end Go.Proofs.YtmhmjlfajlpabaaDoor
namespace Go.Proofs.YtmhmjlfajlpabaaDoor
open Go Go.Abs
def Qbf:Code→List Nat→Code
 |c,[]=>c
 |.seq a _,0::l=>Qbf a l
 |.cond _ a _,0::l=>Qbf a l
 |.block _ a,0::l=>Qbf a l
 |.loop a,0::l=>Qbf a l
 |.scope a,0::l=>Qbf a l
 |.seq _ b,_::l=>Qbf b l
 |.cond _ _ b,_::l=>Qbf b l
 |c,_=>c
noncomputable def b41:Code:=(Tryd.f41.body).getD .skip
noncomputable def p41_0:Code:=Qbf b41 [0]
def q41_0:CCode:= .region [⟨some 2,.move (.c (.d (.str []))),none,[]⟩] none []
theorem k41_0:Qab Tryd.prog Qaz [18,39,50,2,0,3,4] p41_0=some q41_0:=by kernel_rfl
noncomputable def p41_1:Code:=Qbf b41 [1,0]
def q41_1:CCode:= .region [⟨some 5,.move (.t 0),none,[]⟩,⟨some 6,.call 57 [.t 5,.c (.d (.int (.u8) 34))],none,[]⟩] none [5,6]
theorem k41_1:Qab Tryd.prog Qaz [18,39,50,2,0,3,4] p41_1=some q41_1:=by kernel_rfl
noncomputable def p41_2:Code:=Qbf b41 [1,1,0]
def q41_2:CCode:= .region [⟨some 3,.new [.d (.nilptr),.fslice []],none,[]⟩] none []
noncomputable def p41_3:Code:=Qbf b41 [1,1,1,0,0,0,0]
def q41_3:CCode:= .region [⟨some 7,.move (.t 0),none,[]⟩,⟨some 8,.call 37 [.t 7],none,[]⟩,⟨some 4,.move (.t 8),none,[8]⟩] none [7,8]
theorem k41_3:Qab Tryd.prog Qaz [18,39,50,2,0,3,4] p41_3=some q41_3:=by kernel_rfl
noncomputable def p41_6:Code:=Qbf b41 [1,1,1,0,0,0,1,0,0]
def q41_6:CCode:= .region [⟨some 19,.move (.t 0),none,[]⟩,⟨some 20,.nilCheck (.t 19),none,[]⟩,⟨some 21,.fieldAddr 1 (.t 20),none,[]⟩,⟨some 22,.load false 1 (.t 21),none,[]⟩,⟨some 23,.move (.t 0),none,[]⟩,⟨some 24,.nilCheck (.t 23),none,[]⟩,⟨some 25,.fieldAddr 0 (.t 24),none,[]⟩,⟨some 26,.load false 1 (.t 25),none,[]⟩,⟨some 27,.len (.str) (.t 26),none,[]⟩,⟨some 28,.bin (.eql) (.none) (.t 22) (.t 27),none,[]⟩,⟨some 29,.move (.t 28),none,[]⟩,⟨some 30,.move (.t 4),some (29,false),[]⟩,⟨some 31,.bin (.lss) (.none) (.t 30) (.c (.d (.int (.u8) 32))),some (29,false),[]⟩,⟨some 32,.pick (.t 29) (.c (boolD true)) (.t 31),none,[]⟩,⟨some 18,.move (.t 32),none,[32]⟩] none [19,20,21,22,23,24,25,26,27,28,29,30,31,32]
theorem k41_6:Qab Tryd.prog Qaz [18,39,50,2,0,3,4] p41_6=some q41_6:=by kernel_rfl
noncomputable def p41_7:Code:=Qbf b41 [1,1,1,0,0,0,1,0,1,0]
def q41_7:CCode:= .region [⟨some 33,.move (.t 0),none,[]⟩,⟨some 34,.move (.t 0),none,[]⟩,⟨some 35,.nilCheck (.t 34),none,[]⟩,⟨some 36,.fieldAddr 1 (.t 35),none,[]⟩,⟨some 37,.load false 1 (.t 36),none,[]⟩,⟨some 38,.call 26 [.t 33,.c (.d (.int (.i64) 11)),.t 37],none,[]⟩] none [33,34,35,36,37,38]
theorem k41_7:Qab Tryd.prog Qaz [18,39,50,2,0,3,4] p41_7=some q41_7:=by kernel_rfl
noncomputable def p41_8:Code:=Qbf b41 [1,1,1,0,0,0,1,0,1,1,0]
def q41_8:CCode:= .region [⟨some 40,.move (.t 4),none,[]⟩,⟨some 41,.bin (.eql) (.none) (.t 40) (.c (.d (.int (.u8) 34))),none,[]⟩,⟨some 39,.move (.t 41),none,[41]⟩] none [40,41]
theorem k41_8:Qab Tryd.prog Qaz [18,39,50,2,0,3,4] p41_8=some q41_8:=by kernel_rfl
noncomputable def p41_9:Code:=Qbf b41 [1,1,1,0,0,0,1,0,1,1,1,0,0]
def q41_9:CCode:= .region [⟨some 42,.move (.t 0),none,[]⟩,⟨some 43,.nilCheck (.t 42),none,[]⟩,⟨some 44,.fieldAddr 1 (.t 43),none,[]⟩,⟨some 45,.load false 1 (.t 44),none,[]⟩,⟨some 46,.bin (.add) (.none) (.t 45) (.c (.d (.int (.i64) 1))),none,[]⟩,⟨some 47,.nilCheck (.t 42),none,[]⟩,⟨some 48,.fieldAddr 1 (.t 47),none,[]⟩,⟨none,.store 1 (.t 48) (.t 46),none,[46]⟩] none [42,43,44,45,46,47,48]
theorem k41_9:Qab Tryd.prog Qaz [18,39,50,2,0,3,4] p41_9=some q41_9:=by kernel_rfl
noncomputable def QdO:Code:=Qbf b41 [1,1,1,0,0,0,1,0,1,1,1,0,1,0]
def q41_10:CCode:= .region [⟨some 49,.call 58 [.t 3],none,[]⟩,⟨some 2,.move (.t 49),none,[49]⟩] none [49]
noncomputable def Qpy:Code:=Qbf b41 [1,1,1,0,0,0,1,0,1,1,1,1,0]
def Qpn:CCode:= .region [⟨some 51,.move (.t 4),none,[]⟩,⟨some 52,.bin (.eql) (.none) (.t 51) (.c (.d (.int (.u8) 92))),none,[]⟩,⟨some 50,.move (.t 52),none,[52]⟩] none [51,52]
theorem k41_11:Qab Tryd.prog Qaz [18,39,50,2,0,3,4] Qpy=some Qpn:=by kernel_rfl
noncomputable def Qpx:Code:=Qbf b41 [1,1,1,0,0,0,1,0,1,1,1,1,1,0,0]
def Qpm:CCode:= .region [⟨some 53,.move (.t 0),none,[]⟩,⟨some 54,.nilCheck (.t 53),none,[]⟩,⟨some 55,.fieldAddr 1 (.t 54),none,[]⟩,⟨some 56,.load false 1 (.t 55),none,[]⟩,⟨some 57,.bin (.add) (.none) (.t 56) (.c (.d (.int (.i64) 1))),none,[]⟩,⟨some 58,.nilCheck (.t 53),none,[]⟩,⟨some 59,.fieldAddr 1 (.t 58),none,[]⟩,⟨none,.store 1 (.t 59) (.t 57),none,[57]⟩] none [53,54,55,56,57,58,59]
theorem k41_12:Qab Tryd.prog Qaz [18,39,50,2,0,3,4] Qpx=some Qpm:=by kernel_rfl
noncomputable def Qb7:Code:=Qbf b41 [1,1,1,0,0,0,1,0,1,1,1,1,1,0,1]
def Qpl:CCode:= .region [⟨some 60,.move (.t 0),none,[]⟩,⟨some 61,.call 60 [.t 60],none,[]⟩,⟨some 62,.call 59 [.t 3,.t 61],none,[]⟩] none [60,61,62]
theorem k41_13:Qab Tryd.prog Qaz [18,39,50,2,0,3,4] Qb7=some Qpl:=by kernel_rfl
noncomputable def Qhn:Code:=Qbf b41 [1,1,1,0,0,0,1,0,1,1,1,1,1,1,0]
def q41_4:CCode:= .region [⟨some 9,.move (.t 4),none,[]⟩,⟨some 10,.call 61 [.t 3,.t 9],none,[]⟩] none [9,10]
noncomputable def p41_5:Code:=Qbf b41 [1,1,1,0,0,0,1,0,1,1,1,1,1,1,1]
def q41_5:CCode:= .region [⟨some 11,.move (.t 0),none,[]⟩,⟨some 12,.nilCheck (.t 11),none,[]⟩,⟨some 13,.fieldAddr 1 (.t 12),none,[]⟩,⟨some 14,.load false 1 (.t 13),none,[]⟩,⟨some 15,.bin (.add) (.none) (.t 14) (.c (.d (.int (.i64) 1))),none,[]⟩,⟨some 16,.nilCheck (.t 11),none,[]⟩,⟨some 17,.fieldAddr 1 (.t 16),none,[]⟩,⟨none,.store 1 (.t 17) (.t 15),none,[15]⟩] none [11,12,13,14,15,16,17]
theorem k41_5:Qab Tryd.prog Qaz [18,39,50,2,0,3,4] p41_5=some q41_5:=by kernel_rfl
noncomputable def b10:Code:=(Tryd.f10.body).getD .skip
noncomputable def p10_0:Code:=Qbf b10 [0]
def q10_0:CCode:= .region [⟨some 2,.new [.d (.int (.i64) 0),.d (.int (.i64) 0),.d (.str []),.fslice [],.fslice []],none,[]⟩,⟨some 3,.new [.d (.int (.i64) 0)],none,[]⟩,⟨some 4,.new [.d (.int (.i64) 0)],none,[]⟩] none []
theorem k10_0:Qab Tryd.prog Qaz [9,21,40,2,3,4,0,5,6] p10_0=some q10_0:=by kernel_rfl
noncomputable def p10_1:Code:=Qbf b10 [1,0,0]
def q10_1:CCode:= .region [⟨some 7,.move (.t 0),none,[]⟩,⟨some 8,.len (.sl) (.t 7),none,[]⟩,⟨some 9,.bin (.gtr) (.none) (.t 8) (.c (.d (.int (.i64) 16384))),none,[]⟩] none [7,8]
theorem k10_1:Qab Tryd.prog Qaz [9,21,40,2,3,4,0,5,6] p10_1=some q10_1:=by kernel_rfl
noncomputable def p10_2:Code:=Qbf b10 [1,0,1,0,0]
def q10_2:CCode:= .region [⟨some 10,.build [.d (.int (.i64) 0),.d (.int (.i64) 0),.d (.str []),.fslice [],.fslice []] [],none,[]⟩,⟨none,.store 5 (.t 2) (.t 10),none,[10]⟩,⟨none,.store 1 (.t 3) (.c (.d (.int (.i64) 13))),none,[]⟩,⟨none,.store 1 (.t 4) (.c (.d (.int (.i64) 16384))),none,[]⟩] none [10]
theorem k10_2:Qab Tryd.prog Qaz [9,21,40,2,3,4,0,5,6] p10_2=some q10_2:=by kernel_rfl
noncomputable def p10_3:Code:=Qbf b10 [1,1,0]
def q10_3:CCode:= .region [⟨some 11,.move (.t 0),none,[]⟩,⟨some 12,.toStr (.t 11),none,[]⟩,⟨some 13,.build [.d (.str []),.d (.int (.i64) 0)] [(0,1,.t 12)],none,[]⟩,⟨some 14,.box (.t 13),none,[]⟩,⟨some 5,.move (.t 14),none,[14]⟩] none [11,12,13,14]
theorem k10_3:Qab Tryd.prog Qaz [9,21,40,2,3,4,0,5,6] p10_3=some q10_3:=by kernel_rfl
noncomputable def p10_4:Code:=Qbf b10 [1,1,1,0,0]
def q10_4:CCode:= .region [⟨some 15,.move (.t 5),none,[]⟩,⟨some 16,.nilCheck (.t 15),none,[]⟩,⟨some 17,.fieldAddr 0 (.t 16),none,[]⟩,⟨some 18,.load false 1 (.t 17),none,[]⟩,⟨some 19,.call 22 [.t 18],none,[]⟩,⟨some 6,.move (.t 19),none,[19]⟩] none [15,16,17,18,19]
theorem k10_4:Qab Tryd.prog Qaz [9,21,40,2,3,4,0,5,6] p10_4=some q10_4:=by kernel_rfl
noncomputable def p10_5:Code:=Qbf b10 [1,1,1,0,1,0]
def q10_5:CCode:= .region [⟨some 20,.move (.t 6),none,[]⟩,⟨some 21,.bin (.geq) (.none) (.t 20) (.c (.d (.int (.i64) 0))),none,[]⟩] none [20]
theorem k10_5:Qab Tryd.prog Qaz [9,21,40,2,3,4,0,5,6] p10_5=some q10_5:=by kernel_rfl
noncomputable def p10_6:Code:=Qbf b10 [1,1,1,0,1,1,0,0]
def q10_6:CCode:= .region [⟨some 22,.build [.d (.int (.i64) 0),.d (.int (.i64) 0),.d (.str []),.fslice [],.fslice []] [],none,[]⟩,⟨some 23,.move (.t 6),none,[6]⟩,⟨none,.store 5 (.t 2) (.t 22),none,[22]⟩,⟨none,.store 1 (.t 3) (.c (.d (.int (.i64) 10))),none,[]⟩,⟨none,.store 1 (.t 4) (.t 23),none,[23]⟩] none [22,23]
theorem k10_6:Qab Tryd.prog Qaz [9,21,40,2,3,4,0,5,6] p10_6=some q10_6:=by kernel_rfl
noncomputable def Qho:Code:=Qbf b10 [1,1,1,1,0]
noncomputable def p10_8:Code:=Qbf b10 [1,1,1,1,1,0]
def q10_8:CCode:= .region [⟨some 25,.move (.t 5),none,[]⟩,⟨some 26,.call 24 [.t 25],none,[]⟩] none [25,26]
theorem k10_8:Qab Tryd.prog Qaz [9,21,40,2,3,4,0,5,6] p10_8=some q10_8:=by kernel_rfl
noncomputable def Qe9:Code:=Qbf b10 [1,1,1,1,1,1,0]
def q10_9:CCode:= .region [⟨some 27,.move (.t 5),none,[]⟩,⟨some 28,.call 25 [.t 27,.c (.d (.int (.i64) 1))],none,[]⟩,⟨none,.store 5 (.t 2) (.t 28),none,[28]⟩] none [27,28]
theorem k10_9:Qab Tryd.prog Qaz [9,21,40,2,3,4,0,5,6] Qe9=some q10_9:=by kernel_rfl
noncomputable def Qm7:Code:=Qbf b10 [1,1,1,1,1,1,1,0]
def Qpr:CCode:= .region [⟨some 29,.move (.t 5),none,[]⟩,⟨some 30,.call 24 [.t 29],none,[]⟩] none [29,30]
theorem k10_10:Qab Tryd.prog Qaz [9,21,40,2,3,4,0,5,6] Qm7=some Qpr:=by kernel_rfl
noncomputable def Qm6:Code:=Qbf b10 [1,1,1,1,1,1,1,1,0,0]
def Qpq:CCode:= .region [⟨some 31,.move (.t 5),none,[]⟩,⟨some 32,.nilCheck (.t 31),none,[]⟩,⟨some 33,.fieldAddr 1 (.t 32),none,[]⟩,⟨some 34,.load false 1 (.t 33),none,[]⟩,⟨some 35,.move (.t 5),none,[]⟩,⟨some 36,.nilCheck (.t 35),none,[]⟩,⟨some 37,.fieldAddr 0 (.t 36),none,[]⟩,⟨some 38,.load false 1 (.t 37),none,[]⟩,⟨some 39,.len (.str) (.t 38),none,[]⟩,⟨some 40,.bin (.lss) (.none) (.t 34) (.t 39),none,[]⟩] none [31,32,33,34,35,36,37,38,39]
theorem k10_11:Qab Tryd.prog Qaz [9,21,40,2,3,4,0,5,6] Qm6=some Qpq:=by kernel_rfl
noncomputable def QbT:Code:=Qbf b10 [1,1,1,1,1,1,1,1,0,1,0]
def q10_12:CCode:= .region [⟨some 41,.move (.t 5),none,[]⟩,⟨some 42,.move (.t 5),none,[]⟩,⟨some 43,.nilCheck (.t 42),none,[]⟩,⟨some 44,.fieldAddr 1 (.t 43),none,[]⟩,⟨some 45,.load false 1 (.t 44),none,[]⟩,⟨some 46,.call 26 [.t 41,.c (.d (.int (.i64) 16)),.t 45],none,[]⟩] none [41,42,43,44,45,46]
noncomputable def Qm5:Code:=Qbf b10 [1,1,1,1,1,1,1,1,1,0]
def Qpp:CCode:= .region [⟨some 47,.load true 5 (.t 2),none,[]⟩,⟨some 48,.call 27 [.t 47],none,[]⟩,⟨none,.store 5 (.t 2) (.t 48),none,[48]⟩,⟨none,.store 1 (.t 3) (.c (.d (.int (.i64) 0))),none,[]⟩,⟨none,.store 1 (.t 4) (.c (.d (.int (.i64) 0))),none,[]⟩] none [47,48]
theorem k10_13:Qab Tryd.prog Qaz [9,21,40,2,3,4,0,5,6] Qm5=some Qpp:=by kernel_rfl
noncomputable def b23:Code:=(Tryd.f23.body).getD .skip
noncomputable def p23_0:Code:=Qbf b23 [0]
noncomputable def p23_3:Code:=Qbf b23 [1,0,0]
def Qpo:CCode:= .region [⟨some 8,.bin (.eql) (.iface) (.t 6) (.c (.niliface)),none,[]⟩] none []
theorem k23_3:Qab Tryd.prog Qaz [8,10,6,11,4,5,0,1,2] p23_3=some Qpo:=by kernel_rfl
noncomputable def p23_4:Code:=Qbf b23 [1,0,1,0]
def q23_4:CCode:= .region [⟨some 3,.move (.t 6),none,[6]⟩] none [3]
theorem k23_4:Qab Tryd.prog Qaz [8,10,6,11,4,5,0,1,2] p23_4=some q23_4:=by kernel_rfl
noncomputable def QfL:Code:=Qbf b23 [1,0,1,1,0]
noncomputable def p23_6:Code:=Qbf b23 [1,0,1,1,1,0,0]
def q23_6:CCode:= .region [⟨some 4,.new [.d (.int (.i64) 0),.d (.int (.i64) 0)],none,[]⟩,⟨none,.store 2 (.t 4) (.t 11),none,[11]⟩] none []
theorem k23_6:Qab Tryd.prog Qaz [8,10,6,11,4,5,0,1,2] p23_6=some q23_6:=by kernel_rfl
noncomputable def p23_7:Code:=Qbf b23 [1,0,1,1,1,0,1]
def q23_7:CCode:= .region [⟨some 12,.build [.d (.int (.i64) 0),.d (.int (.i64) 0),.d (.str []),.fslice [],.fslice []] [],none,[]⟩,⟨some 13,.fieldAddr 0 (.t 4),none,[]⟩,⟨some 14,.load false 1 (.t 13),none,[]⟩,⟨some 15,.fieldAddr 1 (.t 4),none,[]⟩,⟨some 16,.load false 1 (.t 15),none,[]⟩,⟨none,.store 5 (.t 0) (.t 12),none,[12]⟩,⟨none,.store 1 (.t 1) (.t 14),none,[14]⟩,⟨none,.store 1 (.t 2) (.t 16),none,[16]⟩] (some ⟨[],[],[],some [([],some 5),([2,4],some 6),([4],none)]⟩) [12,13,14,15,16]
theorem k23_7:Qab Tryd.prog Qaz [8,10,6,11,4,5,0,1,2] p23_7=some q23_7:=by kernel_rfl
noncomputable def p23_1:Code:=Qbf b23 [1,0,1,1,1,1,0]
def q23_1:CCode:= .region [⟨some 5,.move (.t 6),none,[6]⟩] none []
noncomputable def p23_2:Code:=Qbf b23 [1,0,1,1,1,1,1]
def q23_2:CCode:= .region [⟨some 7,.move (.t 5),none,[]⟩,⟨none,.panic (.t 7),none,[]⟩] none [7]
section
variable {lim:Nat} {H:Qaa} {r n:Nat} {s:Tx} {p:Nat} (x:Nat→AV)
theorem v41_0:V (QaH code QaL) (QcH code pf QaL (fun _=>none)) lim q41_0 ⟨[.ptr r 0,x 1,x 2,x 3,x 4,x 5,x 6,x 7,x 8,x 9,x 10,x 11,x 12,x 13,x 14,x 15,x 16,x 17,x 18,x 19,x 20,x 21,x 22,x 23,x 24,x 25,x 26,x 27,x 28,x 29,x 30,x 31,x 32,x 33,x 34,x 35,x 36,x 37,x 38,x 39,x 40,x 41,x 42,x 43,x 44,x 45,x 46,x 47,x 48,x 49,x 50,x 51,x 52,x 53,x 54,x 55,x 56,x 57,x 58,x 59,x 60,x 61,x 62],H⟩ (fun e st=>e= .normal∧∃x:Nat→AV,st=⟨[.ptr r 0,x 1,x 2,x 3,x 4,x 5,x 6,x 7,x 8,x 9,x 10,x 11,x 12,x 13,x 14,x 15,x 16,x 17,x 18,x 19,x 20,x 21,x 22,x 23,x 24,x 25,x 26,x 27,x 28,x 29,x 30,x 31,x 32,x 33,x 34,x 35,x 36,x 37,x 38,x 39,x 40,x 41,x 42,x 43,x 44,x 45,x 46,x 47,x 48,x 49,x 50,x 51,x 52,x 53,x 54,x 55,x 56,x 57,x 58,x 59,x 60,x 61,x 62],H⟩) (fun _=>False):=by
 unfold q41_0
 refine v_r trivial ?_
 exact⟨by first|exact trivial|exact rfl,Qao _ _ _ rfl⟩
theorem v41_1(gr:H[r]? =some (rdO s p))(hl:lim≤r)(hs:s.length≤16384)(hp:p≤s.length):V (QaH code QaL) (QcH code pf QaL (fun _=>none)) lim q41_1 ⟨[.ptr r 0,x 1,x 2,x 3,x 4,x 5,x 6,x 7,x 8,x 9,x 10,x 11,x 12,x 13,x 14,x 15,x 16,x 17,x 18,x 19,x 20,x 21,x 22,x 23,x 24,x 25,x 26,x 27,x 28,x 29,x 30,x 31,x 32,x 33,x 34,x 35,x 36,x 37,x 38,x 39,x 40,x 41,x 42,x 43,x 44,x 45,x 46,x 47,x 48,x 49,x 50,x 51,x 52,x 53,x 54,x 55,x 56,x 57,x 58,x 59,x 60,x 61,x 62],H⟩
  (fun e st=>e= .normal∧QbP s 34 p= .ok (p+1)∧∃x:Nat→AV,st=⟨[.ptr r 0,x 1,x 2,x 3,x 4,x 5,x 6,x 7,x 8,x 9,x 10,x 11,x 12,x 13,x 14,x 15,x 16,x 17,x 18,x 19,x 20,x 21,x 22,x 23,x 24,x 25,x 26,x 27,x 28,x 29,x 30,x 31,x 32,x 33,x 34,x 35,x 36,x 37,x 38,x 39,x 40,x 41,x 42,x 43,x 44,x 45,x 46,x 47,x 48,x 49,x 50,x 51,x 52,x 53,x 54,x 55,x 56,x 57,x 58,x 59,x 60,x 61,x 62],H.set r (rdO s (p+1))⟩) (fun z=>QbP s 34 p= .error (11,p)∧z=QdV 11 p):=by
 unfold q41_1
 rcases QcE s 34 p with⟨h1,h2⟩|⟨h1,h2⟩
 ·have ew:Ev (QaH code QaL) 57 lim [.ptr r 0,.d (.int .u8 34)] H (.tuple []) _:=Qjw (pr:=QaL) lim H r s p 34 gr hl hs h1
  (apply Qa6;focus(refine Evl.call (X:=(QaH code QaL)) (ew) (Evl.all fun k e1=> ?_);simp(maxSteps:=100000000) only[zz,zd,simprocAttr,e1];(first|done|with_reducible exact rfl)))<;>(try simp only[zp,simprocAttr])
  exact⟨by first|exact trivial|exact rfl,h2,Qao _ _ _ rfl⟩
 ·refine Qas ?_;apply QbE 1;(focus(intro _;simp only[zz,simprocAttr];(first|done|with_reducible exact rfl)));simp only[List.drop_succ_cons,List.drop_zero];refine QaJ rfl ?_;simp only[zz,simprocAttr]
  exact EvP.fv (Qjx (pr:=QaL) lim H r s p 34 gr hp h1) ⟨h2,rfl⟩
theorem v41_3(gr:H[r]? =some (rdO s p))(hp:p≤s.length):V (QaH code QaL) (QcH code pf QaL (fun _=>none)) lim q41_3 ⟨[.ptr r 0,x 1,x 2,.ptr n 0,x 4,x 5,x 6,x 7,x 8,x 9,x 10,x 11,x 12,x 13,x 14,x 15,x 16,x 17,x 18,x 19,x 20,x 21,x 22,x 23,x 24,x 25,x 26,x 27,x 28,x 29,x 30,x 31,x 32,x 33,x 34,x 35,x 36,x 37,x 38,x 39,x 40,x 41,x 42,x 43,x 44,x 45,x 46,x 47,x 48,x 49,x 50,x 51,x 52,x 53,x 54,x 55,x 56,x 57,x 58,x 59,x 60,x 61,x 62],H⟩
  (fun e st=>e= .normal∧∃x:Nat→AV,st=⟨[.ptr r 0,x 1,x 2,.ptr n 0,.d (.int .u8 (nx s p).toNat),x 5,x 6,x 7,x 8,x 9,x 10,x 11,x 12,x 13,x 14,x 15,x 16,x 17,x 18,x 19,x 20,x 21,x 22,x 23,x 24,x 25,x 26,x 27,x 28,x 29,x 30,x 31,x 32,x 33,x 34,x 35,x 36,x 37,x 38,x 39,x 40,x 41,x 42,x 43,x 44,x 45,x 46,x 47,x 48,x 49,x 50,x 51,x 52,x 53,x 54,x 55,x 56,x 57,x 58,x 59,x 60,x 61,x 62],H⟩) (fun _=>False):=by
 unfold q41_3
 (apply Qa6;focus(refine Evl.call (X:=(QaH code QaL)) (QbA lim H r s p gr hp) (Evl.all fun k e1=> ?_);simp(maxSteps:=100000000) only[zz,zd,simprocAttr,e1];(first|done|with_reducible exact rfl)))<;>(try simp only[zp,simprocAttr])
 exact⟨by first|exact trivial|exact rfl,Qao _ _ _ rfl⟩
theorem v41_6(gr:H[r]? =some (rdO s p))(c:UInt8)(b:Bool)(hb:b=(decide (p=s.length)||decide (c.toNat<32))):V (QaH code QaL) (QcH code pf QaL (fun _=>none)) lim q41_6 ⟨[.ptr r 0,x 1,x 2,.ptr n 0,.d (.int .u8 c.toNat),x 5,x 6,x 7,x 8,x 9,x 10,x 11,x 12,x 13,x 14,x 15,x 16,x 17,x 18,x 19,x 20,x 21,x 22,x 23,x 24,x 25,x 26,x 27,x 28,x 29,x 30,x 31,x 32,x 33,x 34,x 35,x 36,x 37,x 38,x 39,x 40,x 41,x 42,x 43,x 44,x 45,x 46,x 47,x 48,x 49,x 50,x 51,x 52,x 53,x 54,x 55,x 56,x 57,x 58,x 59,x 60,x 61,x 62],H⟩
  (fun e st=>e= .normal∧∃x:Nat→AV,st=⟨[.ptr r 0,x 1,x 2,.ptr n 0,.d (.int .u8 c.toNat),x 5,x 6,x 7,x 8,x 9,x 10,x 11,x 12,x 13,x 14,x 15,x 16,x 17,boolD b,x 19,x 20,x 21,x 22,x 23,x 24,x 25,x 26,x 27,x 28,x 29,x 30,x 31,x 32,x 33,x 34,x 35,x 36,x 37,x 38,x 39,x 40,x 41,x 42,x 43,x 44,x 45,x 46,x 47,x 48,x 49,x 50,x 51,x 52,x 53,x 54,x 55,x 56,x 57,x 58,x 59,x 60,x 61,x 62],H⟩) (fun _=>False):=by
 unfold q41_6
 have e:decide ((c.toNat:Int)<32)=decide (c.toNat<32):=by rw[Bool.eq_iff_iff];simp;omega
 cases h1:decide (p=s.length)with
 |true=>
  rw[h1,Bool.true_or]at hb
  (apply Qjr;focus(intro k;simp(maxSteps:=100000000) only[zz,zd,simprocAttr,gr,QjM,h1];(first|done|with_reducible exact rfl)))<;>(try simp only[zp,simprocAttr])
  rw[hb]
  exact⟨by first|exact trivial|exact rfl,Qao _ _ _ rfl⟩
 |false=>
  rw[h1,Bool.false_or]at hb
  (apply Qjr;focus(intro k;simp(maxSteps:=100000000) only[zz,zd,simprocAttr,gr,QjM,h1,e];(first|done|with_reducible exact rfl)))<;>(try simp only[zp,simprocAttr])
  rw[hb]
  exact⟨by first|exact trivial|exact rfl,Qao _ _ _ rfl⟩
theorem v41_7(gr:H[r]? =some (rdO s p))(c:UInt8)(b:Bool):V (QaH code QaL) (QcH code pf QaL (fun _=>none)) lim q41_7 ⟨[.ptr r 0,x 1,x 2,.ptr n 0,.d (.int .u8 c.toNat),x 5,x 6,x 7,x 8,x 9,x 10,x 11,x 12,x 13,x 14,x 15,x 16,x 17,boolD b,x 19,x 20,x 21,x 22,x 23,x 24,x 25,x 26,x 27,x 28,x 29,x 30,x 31,x 32,x 33,x 34,x 35,x 36,x 37,x 38,x 39,x 40,x 41,x 42,x 43,x 44,x 45,x 46,x 47,x 48,x 49,x 50,x 51,x 52,x 53,x 54,x 55,x 56,x 57,x 58,x 59,x 60,x 61,x 62],H⟩ (fun _ _=>False) (fun z=>z=QdV 11 p):=by
 unfold q41_7
 refine Qas ?_;apply QbE 5;(focus(intro _;simp only[zz,simprocAttr,gr];(first|done|with_reducible exact rfl)));simp only[List.drop_succ_cons,List.drop_zero];refine QaJ rfl ?_;simp only[zz,simprocAttr]
 exact EvP.fv (Qbg (pr:=QaL) lim H r 11 p) rfl
theorem v41_8(c:UInt8)(b b':Bool)(hb:((c.toNat:Int)==34)=b'):V (QaH code QaL) (QcH code pf QaL (fun _=>none)) lim q41_8 ⟨[.ptr r 0,x 1,x 2,.ptr n 0,.d (.int .u8 c.toNat),x 5,x 6,x 7,x 8,x 9,x 10,x 11,x 12,x 13,x 14,x 15,x 16,x 17,boolD b,x 19,x 20,x 21,x 22,x 23,x 24,x 25,x 26,x 27,x 28,x 29,x 30,x 31,x 32,x 33,x 34,x 35,x 36,x 37,x 38,x 39,x 40,x 41,x 42,x 43,x 44,x 45,x 46,x 47,x 48,x 49,x 50,x 51,x 52,x 53,x 54,x 55,x 56,x 57,x 58,x 59,x 60,x 61,x 62],H⟩
  (fun e st=>e= .normal∧∃x:Nat→AV,st=⟨[.ptr r 0,x 1,x 2,.ptr n 0,.d (.int .u8 c.toNat),x 5,x 6,x 7,x 8,x 9,x 10,x 11,x 12,x 13,x 14,x 15,x 16,x 17,x 18,x 19,x 20,x 21,x 22,x 23,x 24,x 25,x 26,x 27,x 28,x 29,x 30,x 31,x 32,x 33,x 34,x 35,x 36,x 37,x 38,boolD b',x 40,x 41,x 42,x 43,x 44,x 45,x 46,x 47,x 48,x 49,x 50,x 51,x 52,x 53,x 54,x 55,x 56,x 57,x 58,x 59,x 60,x 61,x 62],H⟩) (fun _=>False):=by
 unfold q41_8
 refine v_r hb ?_
 exact⟨by first|exact trivial|exact rfl,Qao _ _ _ rfl⟩
theorem v41_11(c:UInt8)(b b':Bool)(hb:((c.toNat:Int)==92)=b'):V (QaH code QaL) (QcH code pf QaL (fun _=>none)) lim Qpn ⟨[.ptr r 0,x 1,x 2,.ptr n 0,.d (.int .u8 c.toNat),x 5,x 6,x 7,x 8,x 9,x 10,x 11,x 12,x 13,x 14,x 15,x 16,x 17,x 18,x 19,x 20,x 21,x 22,x 23,x 24,x 25,x 26,x 27,x 28,x 29,x 30,x 31,x 32,x 33,x 34,x 35,x 36,x 37,x 38,boolD b,x 40,x 41,x 42,x 43,x 44,x 45,x 46,x 47,x 48,x 49,x 50,x 51,x 52,x 53,x 54,x 55,x 56,x 57,x 58,x 59,x 60,x 61,x 62],H⟩
  (fun e st=>e= .normal∧∃x:Nat→AV,st=⟨[.ptr r 0,x 1,x 2,.ptr n 0,.d (.int .u8 c.toNat),x 5,x 6,x 7,x 8,x 9,x 10,x 11,x 12,x 13,x 14,x 15,x 16,x 17,x 18,x 19,x 20,x 21,x 22,x 23,x 24,x 25,x 26,x 27,x 28,x 29,x 30,x 31,x 32,x 33,x 34,x 35,x 36,x 37,x 38,x 39,x 40,x 41,x 42,x 43,x 44,x 45,x 46,x 47,x 48,x 49,boolD b',x 51,x 52,x 53,x 54,x 55,x 56,x 57,x 58,x 59,x 60,x 61,x 62],H⟩) (fun _=>False):=by
 unfold Qpn
 refine v_r hb ?_
 exact⟨by first|exact trivial|exact rfl,Qao _ _ _ rfl⟩
theorem v41_9(gr:H[r]? =some (rdO s p))(hl:lim≤r)(hp:p<100000):V (QaH code QaL) (QcH code pf QaL (fun _=>none)) lim q41_9 ⟨[.ptr r 0,x 1,x 2,.ptr n 0,x 4,x 5,x 6,x 7,x 8,x 9,x 10,x 11,x 12,x 13,x 14,x 15,x 16,x 17,x 18,x 19,x 20,x 21,x 22,x 23,x 24,x 25,x 26,x 27,x 28,x 29,x 30,x 31,x 32,x 33,x 34,x 35,x 36,x 37,x 38,x 39,x 40,x 41,x 42,x 43,x 44,x 45,x 46,x 47,x 48,x 49,x 50,x 51,x 52,x 53,x 54,x 55,x 56,x 57,x 58,x 59,x 60,x 61,x 62],H⟩
  (fun e st=>e= .normal∧∃x:Nat→AV,st=⟨[.ptr r 0,x 1,x 2,.ptr n 0,x 4,x 5,x 6,x 7,x 8,x 9,x 10,x 11,x 12,x 13,x 14,x 15,x 16,x 17,x 18,x 19,x 20,x 21,x 22,x 23,x 24,x 25,x 26,x 27,x 28,x 29,x 30,x 31,x 32,x 33,x 34,x 35,x 36,x 37,x 38,x 39,x 40,x 41,x 42,x 43,x 44,x 45,x 46,x 47,x 48,x 49,x 50,x 51,x 52,x 53,x 54,x 55,x 56,x 57,x 58,x 59,x 60,x 61,x 62],H.set r (rdO s (p+1))⟩) (fun _=>False):=by
 unfold q41_9
 have wp:IntKind.i64.wrap ((p:Int)+1)=((p+1:Nat):Int):=QlE hp
 refine v_r (j_ gr (j_ wp hl)) ?_
 exact⟨by first|exact trivial|exact rfl,Qao _ _ _ rfl⟩
theorem v41_12(gr:H[r]? =some (rdO s p))(hl:lim≤r)(hp:p<100000):V (QaH code QaL) (QcH code pf QaL (fun _=>none)) lim Qpm ⟨[.ptr r 0,x 1,x 2,.ptr n 0,x 4,x 5,x 6,x 7,x 8,x 9,x 10,x 11,x 12,x 13,x 14,x 15,x 16,x 17,x 18,x 19,x 20,x 21,x 22,x 23,x 24,x 25,x 26,x 27,x 28,x 29,x 30,x 31,x 32,x 33,x 34,x 35,x 36,x 37,x 38,x 39,x 40,x 41,x 42,x 43,x 44,x 45,x 46,x 47,x 48,x 49,x 50,x 51,x 52,x 53,x 54,x 55,x 56,x 57,x 58,x 59,x 60,x 61,x 62],H⟩
  (fun e st=>e= .normal∧∃x:Nat→AV,st=⟨[.ptr r 0,x 1,x 2,.ptr n 0,x 4,x 5,x 6,x 7,x 8,x 9,x 10,x 11,x 12,x 13,x 14,x 15,x 16,x 17,x 18,x 19,x 20,x 21,x 22,x 23,x 24,x 25,x 26,x 27,x 28,x 29,x 30,x 31,x 32,x 33,x 34,x 35,x 36,x 37,x 38,x 39,x 40,x 41,x 42,x 43,x 44,x 45,x 46,x 47,x 48,x 49,x 50,x 51,x 52,x 53,x 54,x 55,x 56,x 57,x 58,x 59,x 60,x 61,x 62],H.set r (rdO s (p+1))⟩) (fun _=>False):=by
 unfold Qpm
 have wp:IntKind.i64.wrap ((p:Int)+1)=((p+1:Nat):Int):=QlE hp
 refine v_r (j_ gr (j_ wp hl)) ?_
 exact⟨by first|exact trivial|exact rfl,Qao _ _ _ rfl⟩
theorem v41_5(gr:H[r]? =some (rdO s p))(hl:lim≤r)(hp:p<100000):V (QaH code QaL) (QcH code pf QaL (fun _=>none)) lim q41_5 ⟨[.ptr r 0,x 1,x 2,.ptr n 0,x 4,x 5,x 6,x 7,x 8,x 9,x 10,x 11,x 12,x 13,x 14,x 15,x 16,x 17,x 18,x 19,x 20,x 21,x 22,x 23,x 24,x 25,x 26,x 27,x 28,x 29,x 30,x 31,x 32,x 33,x 34,x 35,x 36,x 37,x 38,x 39,x 40,x 41,x 42,x 43,x 44,x 45,x 46,x 47,x 48,x 49,x 50,x 51,x 52,x 53,x 54,x 55,x 56,x 57,x 58,x 59,x 60,x 61,x 62],H⟩
  (fun e st=>e= .normal∧∃x:Nat→AV,st=⟨[.ptr r 0,x 1,x 2,.ptr n 0,x 4,x 5,x 6,x 7,x 8,x 9,x 10,x 11,x 12,x 13,x 14,x 15,x 16,x 17,x 18,x 19,x 20,x 21,x 22,x 23,x 24,x 25,x 26,x 27,x 28,x 29,x 30,x 31,x 32,x 33,x 34,x 35,x 36,x 37,x 38,x 39,x 40,x 41,x 42,x 43,x 44,x 45,x 46,x 47,x 48,x 49,x 50,x 51,x 52,x 53,x 54,x 55,x 56,x 57,x 58,x 59,x 60,x 61,x 62],H.set r (rdO s (p+1))⟩) (fun _=>False):=by
 unfold q41_5
 have wp:IntKind.i64.wrap ((p:Int)+1)=((p+1:Nat):Int):=QlE hp
 refine v_r (j_ gr (j_ wp hl)) ?_
 exact⟨by first|exact trivial|exact rfl,Qao _ _ _ rfl⟩
end
end Go.Proofs.YtmhmjlfajlpabaaDoor
set_option maxHeartbeats 1000000
set_option linter.unusedVariables false
namespace Go.Proofs.YtmhmjlfajlpabaaDoor
open Go Go.Abs Go.Proofs Go.RowKit Go.Lib
structure TI (g0:Gh) (w0:World) (n b:Nat) (l:Tx) (g:Gh) (w:World):Prop where
 wf:WF g0 w0 g w
 hn:n<g.n
 rho:g.rho n=b
 b0:w0.heap.size≤b∧g.own b= .free∧g.bd b=0
 bld:∃row,Bld b l row w∧∀k,row=some k→w0.heap.size≤k∧g.own k= .free∧g.bd k=0
theorem Bld.lt{b:Nat}{l:Tx}{row:Option Nat}{w:World}(h:Bld b l row w):b<w.heap.size:=by
 obtain⟨p,v,_,h,_⟩:=h;exact h.lt
theorem Bld.row_lt{b:Nat}{l:Tx}{row:Option Nat}{w:World}(h:Bld b l row w){k:Nat}(hk:row=some k):k<w.heap.size:=by
 obtain⟨p,v,_,h,e⟩:=h;exact h.row_lt (e.trans hk)
theorem TI.step{g0:Gh}{w0:World}{n b:Nat}{l:Tx}{g g':Gh}{w w':World}(h:TI g0 w0 n b l g w)(hw:WF g w g' w'):TI g0 w0 n b l g' w':=by
 obtain⟨row,hb,hr⟩:=h.bld
 have i1:=hw.idle b hb.lt (.inl h.b0.2.1)
 refine⟨h.wf.trans hw,Nat.lt_of_lt_of_le h.hn hw.n,(hw.rho n h.hn).trans h.rho,⟨h.b0.1,i1.2.1.trans h.b0.2.1,i1.2.2.trans h.b0.2.2⟩,row,hb.kept i1.1 (fun k hk=>(hw.idle k (hb.row_lt hk) (.inl (hr k hk).2.1)).1),fun k hk=> ?_⟩
 have i2:=hw.idle k (hb.row_lt hk) (.inl (hr k hk).2.1)
 exact⟨(hr k hk).1,i2.2.1.trans (hr k hk).2.1,i2.2.2.trans (hr k hk).2.2⟩
theorem TI.use{g0:Gh}{w0:World}{H0 H:Qaa}(h0:HeapOK g0 H0 w0){n b:Nat}{l:Tx}{g:Gh}{w:World}(hH:HeapOK g H w)(h:TI g0 w0 n b l g w):
  ∃row,Bld b l row w∧(∀w',Mv b row w w'→Frn g w w'∧WF g0 w0 g w')∧∀w' l',Qq1 b l' row w w'→Frn g w w'∧TI g0 w0 n b l' g w':=by
 obtain⟨row,hb,hr⟩:=h.bld
 have hm:∀w',Mv b row w w'→Frn g w w'∧WF g0 w0 g w':=fun w' hm=>by
  have hf:Frn g w w':=⟨hm.os,hm.tape,hm.output,hm.size,fun k hk ho=>hm.block k hk (fun e=>by
   subst e;rcases ho with ho|ho
   ·exact ho h.b0.2.1
   ·exact ho h.b0.2.2) (fun e=>by
   obtain⟨_,q1,q2⟩:=hr k e.symm
   rcases ho with ho|ho
   ·exact ho q1
   ·exact ho q2)⟩
  refine⟨hf,hf.wf h0 h.wf fun k hk=>hm.block k (Nat.lt_of_lt_of_le hk h.wf.size) (fun e=> ?_) (fun e=> ?_)⟩
  ·have:=h.b0.1;omega
  ·have:=(hr k e.symm).1;omega
 refine⟨row,hb,hm,fun w' l' hw=> ?_⟩
 obtain⟨row',hb',hmv,hrow⟩:=hw
 obtain⟨q1,q2⟩:=hm w' hmv
 refine⟨q1,q2,h.hn,h.rho,h.b0,row',hb',fun k hk=> ?_⟩
 rcases hrow with e|⟨k',e,hk'⟩
 ·exact hr k (e.symm.trans hk)
 ·rw[e]at hk;injection hk with hk;subst hk
  have:=hH.new k' hk'
  exact⟨Nat.le_trans h.wf.size hk',this⟩
theorem Inv.bool{g:Gh}{st:St}{a:Act}{w:World}(h:Inv g st a w){i:Nat}{b:Bool}(hT:st.T.getD i .undef=boolD b):a.eval (.tmp i)= .bool b:=by
 have:=(Qb6 h i).1
 rw[hT]at this
 show a.tmps.getD i undef=_
 generalize a.tmps.getD i undef=v at this
 cases this with
 |d _ _ h=>cases h;rfl
def opsOf:Code→Array Oper
 |.region _ ops _=>ops
 |_=> #[]
noncomputable def Qa8(c:Code)(i:Nat):Oper:=((opsOf c).toList[i]?).getD ⟨none,.move (.tmp 0),0, "",#[],none⟩
theorem b41_eq:b41= .seq p41_0 (.seq p41_1 (.seq p41_2 (.block 0 (.loop (.block 1 (.seq p41_3 (.block 2 (.seq p41_6 (.cond (.tmp 18) p41_7 (.seq p41_8 (.cond (.tmp 39) (.seq p41_9 (.seq QdO .ret)) (.seq Qpy (.cond (.tmp 50) (.seq Qpx Qb7) (.seq Qhn p41_5)))))))))))))):=by kernel_rfl
theorem r2_eq:p41_2= .region 2 #[Qa8 p41_2 0] false:=by kernel_rfl
theorem r2_op:Qa8 p41_2 0=⟨some 3,.alloc 78,(Qa8 p41_2 0).type,(Qa8 p41_2 0).pos,(Qa8 p41_2 0).after,none⟩:=by kernel_rfl
theorem r10_eq:QdO= .region 10 #[Qa8 QdO 0,Qa8 QdO 1] false:=by kernel_rfl
theorem r13_eq:Qb7= .region 13 #[Qa8 Qb7 0,Qa8 Qb7 1,Qa8 Qb7 2] false:=by kernel_rfl
theorem r4_eq:Qhn= .region 4 #[Qa8 Qhn 0,Qa8 Qhn 1] false:=by kernel_rfl
theorem r2_wp{Q:Exit→Act→World→Prop}{a:Act}{w:World}(h:Q .normal (a.put (some 3) (.pointer (some ⟨w.heap.size,0,none⟩))) (w.alloc (.cells #[.pointer none,.slice none 0 0] 78))):p41_2.wp Tryd.prog Q a w:=by
 rw[r2_eq]
 refine wp_region_list ?_
 rw[r2_op]
 generalize(Qa8 p41_2 0).pos=ps
 generalize(Qa8 p41_2 0).type=ty
 generalize(Qa8 p41_2 0).after=af
 go_wp2
 exact h
end Go.Proofs.YtmhmjlfajlpabaaDoor
set_option maxHeartbeats 1000000
set_option linter.unusedVariables false
namespace Go.Proofs.YtmhmjlfajlpabaaDoor
open Go Go.Abs Go.Proofs Go.RowKit Go.Lib
abbrev TS(r n:Nat)(x:Nat→AV):List AV:= [.ptr r 0,x 1,x 2,.ptr n 0,x 4,x 5,x 6,x 7,x 8,x 9,x 10,x 11,x 12,x 13,x 14,x 15,x 16,x 17,x 18,x 19,x 20,x 21,x 22,x 23,x 24,x 25,x 26,x 27,x 28,x 29,x 30,x 31,x 32,x 33,x 34,x 35,x 36,x 37,x 38,x 39,x 40,x 41,x 42,x 43,x 44,x 45,x 46,x 47,x 48,x 49,x 50,x 51,x 52,x 53,x 54,x 55,x 56,x 57,x 58,x 59,x 60,x 61,x 62]
abbrev TS4(r n:Nat)(c:UInt8)(x:Nat→AV):List AV:= [.ptr r 0,x 1,x 2,.ptr n 0,.d (.int .u8 c.toNat),x 5,x 6,x 7,x 8,x 9,x 10,x 11,x 12,x 13,x 14,x 15,x 16,x 17,x 18,x 19,x 20,x 21,x 22,x 23,x 24,x 25,x 26,x 27,x 28,x 29,x 30,x 31,x 32,x 33,x 34,x 35,x 36,x 37,x 38,x 39,x 40,x 41,x 42,x 43,x 44,x 45,x 46,x 47,x 48,x 49,x 50,x 51,x 52,x 53,x 54,x 55,x 56,x 57,x 58,x 59,x 60,x 61,x 62]
def TRes(g0:Gh)(w0:World)(H0:Qaa)(lim r:Nat)(s:Tx)(p:Nat)(e:Ending)(w':World):Prop:=
 (∃t q v g',Qbq s p= .ok (t,q)∧e= .returned v∧WF g0 w0 g' w'∧HeapOK g' (H0.set r (rdO s q)) w'∧VR g' w' (.d (.str t)) v)∨
 ∃er v g' H',Qbq s p= .error er∧e= .panicked [{ v:= .iface (QdV er.1 er.2).1 v,recovered:=false }]∧WF g0 w0 g' w'∧Ext lim H0 H'∧HeapOK g' H' w'∧VR g' w' (.d (QdV er.1 er.2).2) v
abbrev BP(g0:Gh)(w0:World)(H0:Qaa)(lim r:Nat)(s:Tx)(p:Nat):Exit→Act→World→Prop:=bodyPost Tryd.prog Tryd.f41 (TRes g0 w0 H0 lim r s p)
theorem chars_eq(s:Tx)(f:Nat)(acc:Tx)(p:Nat):QaW s (f+1) acc p=match s[p]? with
  |none=> .error (11,p)
  |some c=>
   if c.toNat<32 then .error (11,p)
   else if c=34 then .ok (acc,p+1)
   else if c=92 then match QdR s (p+1)with
    |.error e=> .error e
    |.ok (n,q)=>QaW s f (acc++Qco n) q
   else QaW s f (acc++ [c]) (p+1):=by
 conv=>lhs;unfold QaW
 rfl
theorem esc_rune{s:Tx}{p n q:Nat}(h:QdR s p= .ok (n,q)):Qhc n:=by
 unfold Qhc
 unfold QdR at h
 split at h
 ·cases h
 ·rename_i c hc
  have hl:=c.toNat_lt
  iterate 6 (split at h;·(have:=congrArg Prod.fst (Except.ok.inj h);simp only at this;omega))
  split at h
  ·split at h
   ·cases h
   ·rename_i n1 p1 h1
    have:=(Qh4 h1).1
    split at h
    ·have:=congrArg Prod.fst (Except.ok.inj h);simp only at this;omega
    ·split at h
     ·cases h
     ·split at h
      ·cases h
      ·rename_i n2 p2 h2
       have:=(Qh4 h2).1
       split at h
       ·cases h
       ·have:=congrArg Prod.fst (Except.ok.inj h);simp only at this;omega
  ·cases h
theorem Qpi(n:Nat):(Qco n).length≤4:=by unfold Qco;(repeat' split)<;>simp
section
variable {g0:Gh} {w0:World} {H0:Qaa} {lim r:Nat} {s:Tx} {p:Nat}
theorem QlY{g:Gh}{w:World}{H:Qaa}(hw:WF g0 w0 g w)(hx:Ext lim H0 H){er:Nat×Nat}(he:Qbq s p= .error er):PanQ g w lim H (QdV er.1 er.2) (BP g0 w0 H0 lim r s p):=
 fun g' H' v a' w' k0 k1 kx k2 k3=>⟨k0,.inr ⟨er,v,g',H',he,rfl,hw.trans k1,hx.trans kx,k2,k3⟩⟩
theorem Qp4(gr:r<H0.length)(o:AObj):(H0.set r o++ [AObj.dead])[r]? =some o:=by
 rw[List.getElem?_append_left (by simpa using gr)];simp[gr]
theorem Qnk(gr:r<H0.length)(o o':AObj):(H0.set r o++ [AObj.dead]).set r o'=H0.set r o'++ [AObj.dead]:=by
 rw[List.set_append_left _ _ (by simpa using gr),List.set_set]
theorem kk_ext(hl:lim≤r)(hlim:lim≤H0.length)(o:AObj):Ext lim H0 (H0.set r o++ [AObj.dead]):=(Ext.set _ hl).trans (Ext.app _ (by simpa using hlim))
theorem c10_1: [Qa8 QdO 1].mapM (Qap Tryd.prog Qaz [Qa8 QdO 0,Qa8 QdO 1])=some [⟨some 2,.move (.t 49),none,[49]⟩]:=by kernel_rfl
theorem c13_0:Qap Tryd.prog Qaz [Qa8 Qb7 0,Qa8 Qb7 1,Qa8 Qb7 2] (Qa8 Qb7 0)=some ⟨some 60,.move (.t 0),none,[]⟩:=by kernel_rfl
theorem c13_1:Qap Tryd.prog Qaz [Qa8 Qb7 0,Qa8 Qb7 1,Qa8 Qb7 2] (Qa8 Qb7 1)=some ⟨some 61,.call 60 [.t 60],none,[]⟩:=by kernel_rfl
theorem c4_0:Qap Tryd.prog Qaz [Qa8 Qhn 0,Qa8 Qhn 1] (Qa8 Qhn 0)=some ⟨some 9,.move (.t 4),none,[]⟩:=by kernel_rfl
theorem o10_0:(Qa8 QdO 0).op= .call { callee:= .value (.func 58),args:= #[.tmp 3],argTypes:= #[78] }∧(Qa8 QdO 0).guard=none∧(Qa8 QdO 0).dst=some 49:=⟨by kernel_rfl,by kernel_rfl,by kernel_rfl⟩
theorem o13_2:(Qa8 Qb7 2).op= .call { callee:= .value (.func 59),args:= #[.tmp 3,.tmp 61],argTypes:= #[78,21] }∧(Qa8 Qb7 2).guard=none∧(Qa8 Qb7 2).dst=some 62:=⟨by kernel_rfl,by kernel_rfl,by kernel_rfl⟩
theorem o4_1:(Qa8 Qhn 1).op= .call { callee:= .value (.func 61),args:= #[.tmp 3,.tmp 9],argTypes:= #[78,5] }∧(Qa8 Qhn 1).guard=none∧(Qa8 Qhn 1).dst=some 10:=⟨by kernel_rfl,by kernel_rfl,by kernel_rfl⟩
theorem fn58:QlD Tryd.prog 58:=⟨_,Tryd.func58,by kernel_rfl,by kernel_rfl⟩
theorem fn59:QlD Tryd.prog 59:=⟨_,Tryd.func59,by kernel_rfl,by kernel_rfl⟩
theorem fn61:QlD Tryd.prog 61:=⟨_,Tryd.func61,by kernel_rfl,by kernel_rfl⟩
theorem Inv.ptr{g:Gh}{st:St}{a:Act}{w:World}(h:Inv g st a w){i n:Nat}(hT:st.T.getD i .undef= .ptr n 0):a.eval (.tmp i)= .pointer (some ⟨g.rho n,0,none⟩):=by
 have:=(Qb6 h i).1
 rw[hT]at this
 show a.tmps.getD i undef=_
 generalize a.tmps.getD i undef=v at this
 cases this;rfl
theorem Inv.num{g:Gh}{st:St}{a:Act}{w:World}(h:Inv g st a w){i:Nat}{k:IntKind}{n:Int}(hT:st.T.getD i .undef= .d (.int k n)):a.eval (.tmp i)= .int k n:=by
 have:=(Qb6 h i).1
 rw[hT]at this
 show a.tmps.getD i undef=_
 generalize a.tmps.getD i undef=v at this
 cases this with
 |d _ _ h=>cases h;rfl
end
end Go.Proofs.YtmhmjlfajlpabaaDoor
set_option maxHeartbeats 2000000
set_option linter.unusedVariables false
namespace Go.Proofs.YtmhmjlfajlpabaaDoor
open Go Go.Abs Go.Proofs Go.RowKit Go.Lib
section
variable {g0:Gh} {w0:World} {H0:Qaa} {lim r:Nat} {s:Tx} {p:Nat}
theorem res41:Qbb Tryd.prog Tryd.f41.results.toList=some [.t 2]:=by kernel_rfl
theorem v41_13{lim:Nat}{H:Qaa}{r n:Nat}(x:Nat→AV){z:PV}(h:EvP (QcH code pf QaL (fun _=>none)) 60 lim [.ptr r 0] H z):V (QaH code QaL) (QcH code pf QaL (fun _=>none)) lim Qpl ⟨[.ptr r 0,x 1,x 2,.ptr n 0,x 4,x 5,x 6,x 7,x 8,x 9,x 10,x 11,x 12,x 13,x 14,x 15,x 16,x 17,x 18,x 19,x 20,x 21,x 22,x 23,x 24,x 25,x 26,x 27,x 28,x 29,x 30,x 31,x 32,x 33,x 34,x 35,x 36,x 37,x 38,x 39,x 40,x 41,x 42,x 43,x 44,x 45,x 46,x 47,x 48,x 49,x 50,x 51,x 52,x 53,x 54,x 55,x 56,x 57,x 58,x 59,x 60,x 61,x 62],H⟩ (fun _ _=>False) (fun z'=>z'=z):=by
 unfold Qpl
 refine Qas ?_;apply QbE 1;(focus(intro _;simp only[zz,simprocAttr];(first|done|with_reducible exact rfl)));simp only[List.drop_succ_cons,List.drop_zero];refine QaJ rfl ?_;simp only[zz,simprocAttr]
 exact EvP.fv h rfl
noncomputable abbrev Qm0:Code:= .block 1 (.seq p41_3 (.block 2 (.seq p41_6 (.cond (.tmp 18) p41_7 (.seq p41_8 (.cond (.tmp 39) (.seq p41_9 (.seq QdO .ret)) (.seq Qpy (.cond (.tmp 50) (.seq Qpx Qb7) (.seq Qhn p41_5)))))))))
theorem Qo4(hS:EnvS Tryd.prog pf (QaH code QaL) (QcH code pf QaL (fun _=>none)))(h0:HeapOK g0 H0 w0)(hr:r<H0.length)(hl:lim≤r)(hlim:lim≤H0.length)(hs:s.length≤16384){b:Nat}:
  ∀(m:Nat) {acc:Tx} {q f:Nat} {g:Gh} {a:Act} {w:World} {x:Nat→AV},m=s.length-q→q≤s.length→acc.length≤4*q→s.length-q+1≤f→Qbq s p=QaW s f acc q→TI g0 w0 H0.length b acc g w→
   Inv g ⟨TS r H0.length x,H0.set r (rdO s q)++ [.dead]⟩ a w→Qgw Tryd.prog Qm0 (Exit.inBlock 0 (BP g0 w0 H0 lim r s p)) a w:=by
 intro m
 induction m using Nat.strongRecOn with
 |_ m ih=>
 intro acc q f g a w x hm hq hac hf hts hti hinv
 obtain⟨f,rfl⟩:∃k,f=k+1:=⟨f-1,by omega⟩
 rw[chars_eq]at hts
 have hll:∀o:AObj,lim≤(H0.set r o++ [AObj.dead]).length:=fun o=>by simp;omega
 have gr:=Qp4 hr (rdO s q)
 refine QcP (wp_block (wp_seq (QfA hS k41_3 rfl hinv (hll _) (v41_3 x gr hq) ?_ (fun _ h=>h.elim))))
 rintro e st1 g1 a1 w1 ⟨rfl,x1,rfl⟩ hw1 hi1 hx1
 have ht1:=hti.step hw1
 generalize hc:nx s q=c at hi1
 obtain⟨bb,hbb⟩:∃bb,bb=(decide (q=s.length)||decide (c.toNat<32)):=⟨_,rfl⟩
 show Code.wp Tryd.prog (.block 2 _) _ a1 w1
 refine wp_block (wp_seq (QfA hS k41_6 rfl hi1 (hll _) (v41_6 x1 gr c bb hbb) ?_ (fun _ h=>h.elim)))
 rintro e st2 g2 a2 w2 ⟨rfl,x2,rfl⟩ hw2 hi2 hx2
 have ht2:=ht1.step hw2
 show Code.wp Tryd.prog (.cond (.tmp 18) _ _) _ a2 w2
 refine wp_cond (Inv.bool (b:=bb) hi2 rfl) ?_
 cases bb with
 |true=>
  have he:Qbq s p= .error (11,q):=by
   rw[hts]
   by_cases hqe:q=s.length
   ·rw[List.getElem?_eq_none (by omega)]
   ·have hql:q<s.length:=by omega
    have:s[q]? =some c:=by rw[Qdt hql,hc]
    have h32:c.toNat<32:=by
     rcases Bool.or_eq_true_iff.1 hbb.symm with h|h
     ·exact absurd (of_decide_eq_true h) hqe
     ·exact of_decide_eq_true h
    rw[this]
    simp only[if_pos h32]
  rw[if_pos rfl]
  refine QfA hS k41_7 rfl hi2 (hll _) (v41_7 x2 gr c true) (fun _ _ _ _ _ h=>h.elim) ?_
  rintro _ rfl
  intro g' H' v a' w' k0 k1 kx k2 k3
  exact QlY ht2.wf (kk_ext hl hlim _) he g' H' v a' w' k0 k1 kx k2 k3
 |false=>
  have hbf:=Bool.or_eq_false_iff.1 hbb.symm
  have hqe:¬q=s.length:=of_decide_eq_false hbf.1
  have h32:¬c.toNat<32:=of_decide_eq_false hbf.2
  have hql:q<s.length:=by omega
  have hsq:s[q]? =some c:=by rw[Qdt hql,hc]
  rw[hsq]at hts
  simp only[if_neg h32]at hts
  rw[if_neg (by simp)]
  obtain⟨b2,hb2⟩:∃b2,((c.toNat:Int)==34)=b2:=⟨_,rfl⟩
  refine wp_seq (QfA hS k41_8 rfl hi2 (hll _) (v41_8 x2 c false b2 hb2) ?_ (fun _ h=>h.elim))
  rintro e st3 g3 a3 w3 ⟨rfl,x3,rfl⟩ hw3 hi3 hx3
  have ht3:=ht2.step hw3
  show Code.wp Tryd.prog (.cond (.tmp 39) _ _) _ a3 w3
  refine wp_cond (Inv.bool (b:=b2) hi3 rfl) ?_
  by_cases h34:c=34
  ·obtain rfl:b2=true:=by rw[←hb2];exact QiA h34 rfl
   rw[if_pos h34]at hts
   rw[if_pos rfl]
   refine wp_seq (QfA hS k41_9 rfl hi3 (hll _) (v41_9 (fun i=>if i=4 then .d (.int .u8 c.toNat)else if i=39 then boolD true else x3 i) gr hl (by omega)) ?_ (fun _ h=>h.elim))
   rintro e st4 g4 a4 w4 ⟨rfl,x4,rfl⟩ hw4 hi4 hx4
   have ht4:=ht3.step hw4
   rw[Qnk hr]at hi4
   show Code.wp Tryd.prog (.seq QdO .ret) _ a4 w4
   obtain⟨row,hbl,hmv,hwr⟩:=ht4.use h0 hi4.heap
   rw[r10_eq]
   refine wp_seq (wp_region_list ?_)
   have hp3:a4.eval (.tmp 3)= .pointer (some ⟨b,0,none⟩):=by
    rw[Inv.ptr (n:=H0.length) hi4 rfl,ht4.rho]
   refine QhL o10_0.2.1 o10_0.1 fn58 (R:=fun e w'=>e= .returned (.string ⟨acc.toArray⟩)∧Mv b row w4 w') ?_ ?_
   ·rw[show(#[Operand.tmp 3].map a4.eval)= #[a4.eval (.tmp 3)] by simp,hp3]
    exact str_any hbl
   rintro e w5 ⟨rfl,hm5⟩
   refine⟨_,rfl, ?_⟩
   obtain⟨hf5,hwf5⟩:=hmv w5 hm5
   have hi5:=hf5.inv hi4
   rw[o10_0.2.2]
   have hi6:=hi5.put (d:=49) (x:= .d (.str acc)) (v:= .string ⟨acc.toArray⟩) (.d _ _ (.str _ _ rfl)) (Triv.d _ _)
   refine QfU (lim:=lim) (hS.e 0) _ _ c10_1 hi6 (by simpa using hll (rdO s (q+1))) (show runOps _ _ _ _=some ⟨((TS r H0.length x4).set 49 (.d (.str acc))).set 2 (.d (.str acc)),H0.set r (rdO s (q+1))++ [.dead]⟩from rfl) ?_
   intro g7 a7 w7 hw7 hi7 hx7
   refine wp_ret ?_
   obtain⟨v,hv1,hv2,hv3⟩:=Qhf hi7 res41 (show Qcc _ _ [.t 2]=some [.d (.str acc)]from rfl)
   refine⟨hi7.defers,v,hv1,.inl ⟨acc,q+1,v,g7.cut w7 H0.length,hts,rfl,QmJ (hwf5.trans hw7) h0.n, ?_, ?_⟩⟩
   ·exact Qk3 h0 hi7.heap hr (Qp4 hr _) rfl (by rw[List.take_append_of_le_length (by simp),List.take_of_length_le (by simp)])
   ·cases hv2 with
    |d _ _ h=>cases h with|str _ _ h=>exact .d _ _ (.str _ _ h)
  ·obtain rfl:b2=false:=by rw[←hb2];exact Qir h34 rfl
   rw[if_neg h34]at hts
   rw[if_neg (by simp)]
   obtain⟨b3,hb3⟩:∃b3,((c.toNat:Int)==92)=b3:=⟨_,rfl⟩
   refine wp_seq (QfA hS k41_11 rfl hi3 (hll _) (v41_11 x3 c false b3 hb3) ?_ (fun _ h=>h.elim))
   rintro e st4 g4 a4 w4 ⟨rfl,x4,rfl⟩ hw4 hi4 hx4
   have ht4:=ht3.step hw4
   show Code.wp Tryd.prog (.cond (.tmp 50) _ _) _ a4 w4
   refine wp_cond (Inv.bool (b:=b3) hi4 rfl) ?_
   by_cases h92:c=92
   ·obtain rfl:b3=true:=by rw[←hb3];exact QiA h92 rfl
    rw[if_pos h92]at hts
    rw[if_pos rfl]
    refine wp_seq (QfA hS k41_12 rfl hi4 (hll _) (v41_12 (fun i=>if i=4 then .d (.int .u8 c.toNat)else if i=50 then boolD true else x4 i) gr hl (by omega)) ?_ (fun _ h=>h.elim))
    rintro e st5 g5 a5 w5 ⟨rfl,x5,rfl⟩ hw5 hi5 hx5
    have ht5:=ht4.step hw5
    rw[Qnk hr]at hi5
    show Code.wp Tryd.prog Qb7 _ a5 w5
    have hev:=esc_ev (pr:=QaL) (pP:=fun _=>none) lim _ r s (q+1) (Qp4 hr (rdO s (q+1))) hl hs (by omega) (by omega)
    cases hes:QdR s (q+1)with
    |error er=>
     rw[hes]at hts
     refine QfA hS k41_13 rfl hi5 (hll _) (v41_13 x5 (hev.noJ hes)) (fun _ _ _ _ _ h=>h.elim) ?_
     rintro _ rfl
     intro g' H' v a' w' k0 k1 kx k2 k3
     exact QlY ht5.wf (kk_ext hl hlim _) hts g' H' v a' w' k0 k1 kx k2 k3
    |ok y=>
     obtain⟨n,q2⟩:=y
     rw[hes]at hts
     have hn:=esc_rune hes
     have hq2:=Qqt hes
     have hev2:=hev.okJ hes
     rw[Qnk hr]at hev2
     obtain⟨k0,hk0⟩:∃k0,∀k,k0≤k→(QaH code QaL) k 60 lim [.ptr r 0] (H0.set r (rdO s (q+1))++ [.dead])=some (i32D n,H0.set r (rdO s q2)++ [.dead]):=Ev.out hev2
     have hk1:=hk0 k0 (Nat.le_refl _)
     rw[r13_eq]
     refine wp_region_list ?_
     refine QbV (lim:=lim) (st':=⟨[.ptr r 0,x5 1,x5 2,.ptr H0.length 0,x5 4,x5 5,x5 6,x5 7,x5 8,x5 9,x5 10,x5 11,x5 12,x5 13,x5 14,x5 15,x5 16,x5 17,x5 18,x5 19,x5 20,x5 21,x5 22,x5 23,x5 24,x5 25,x5 26,x5 27,x5 28,x5 29,x5 30,x5 31,x5 32,x5 33,x5 34,x5 35,x5 36,x5 37,x5 38,x5 39,x5 40,x5 41,x5 42,x5 43,x5 44,x5 45,x5 46,x5 47,x5 48,x5 49,x5 50,x5 51,x5 52,x5 53,x5 54,x5 55,x5 56,x5 57,x5 58,x5 59,.ptr r 0,x5 61,x5 62],_⟩) c13_0 (hS.e k0) hi5 (hll _) (by simp only[zz,simprocAttr];rfl) ?_
     intro g6 a6 w6 hw6 hi6 hx6
     have ht6:=ht5.step hw6
     refine QbV (lim:=lim) (st':=⟨[.ptr r 0,x5 1,x5 2,.ptr H0.length 0,x5 4,x5 5,x5 6,x5 7,x5 8,x5 9,x5 10,x5 11,x5 12,x5 13,x5 14,x5 15,x5 16,x5 17,x5 18,x5 19,x5 20,x5 21,x5 22,x5 23,x5 24,x5 25,x5 26,x5 27,x5 28,x5 29,x5 30,x5 31,x5 32,x5 33,x5 34,x5 35,x5 36,x5 37,x5 38,x5 39,x5 40,x5 41,x5 42,x5 43,x5 44,x5 45,x5 46,x5 47,x5 48,x5 49,x5 50,x5 51,x5 52,x5 53,x5 54,x5 55,x5 56,x5 57,x5 58,x5 59,.ptr r 0,i32D n,x5 62],_⟩) c13_1 (hS.e k0) hi6 (hll _) (by simp only[zz,simprocAttr,hk1];rfl) ?_
     intro g7 a7 w7 hw7 hi7 hx7
     have ht7:=ht6.step hw7
     obtain⟨row,hbl,hmv,hwr⟩:=ht7.use h0 hi7.heap
     have hp3:a7.eval (.tmp 3)= .pointer (some ⟨b,0,none⟩):=by
      rw[Inv.ptr (n:=H0.length) hi7 rfl,ht7.rho]
     have hp61:a7.eval (.tmp 61)= .int .i32 n:=Inv.num hi7 rfl
     refine QhL o13_2.2.1 o13_2.1 fn59 (R:=fun e w'=>(∃v,e= .returned v)∧Qq1 b (acc++Qco n) row w7 w') ?_ ?_
     ·rw[show(#[Operand.tmp 3,Operand.tmp 61].map a7.eval)= #[a7.eval (.tmp 3),a7.eval (.tmp 61)] by simp,hp3,hp61]
      exact wr_any n hn hbl (by omega)
     rintro e w8 ⟨⟨v,rfl⟩,hm8⟩
     refine⟨_,rfl, ?_⟩
     obtain⟨hf8,ht8⟩:=hwr w8 _ hm8
     rw[o13_2.2.2]
     have hi8:=(hf8.inv hi7).put (d:=62) (x:= .undef) (v:=v) (.undef _) (fun _ e=>by cases e)
     show Qgw Tryd.prog Qm0 _ _ _
     have hlen:=Qpi n
     exact ih (s.length-q2) (by omega) (x:=fun i=>(([.ptr r 0,x5 1,x5 2,.ptr H0.length 0,x5 4,x5 5,x5 6,x5 7,x5 8,x5 9,x5 10,x5 11,x5 12,x5 13,x5 14,x5 15,x5 16,x5 17,x5 18,x5 19,x5 20,x5 21,x5 22,x5 23,x5 24,x5 25,x5 26,x5 27,x5 28,x5 29,x5 30,x5 31,x5 32,x5 33,x5 34,x5 35,x5 36,x5 37,x5 38,x5 39,x5 40,x5 41,x5 42,x5 43,x5 44,x5 45,x5 46,x5 47,x5 48,x5 49,x5 50,x5 51,x5 52,x5 53,x5 54,x5 55,x5 56,x5 57,x5 58,x5 59,.ptr r 0,i32D n,x5 62]).set 62 AV.undef).getD i .undef) rfl hq2.2 (by simp;omega) (by omega) hts ht8 hi8
   ·obtain rfl:b3=false:=by rw[←hb3];exact Qir h92 rfl
    rw[if_neg h92]at hts
    rw[if_neg (by simp)]
    rw[r4_eq]
    refine wp_seq (wp_region_list ?_)
    refine QbV (lim:=lim) (st':=⟨[.ptr r 0,x4 1,x4 2,.ptr H0.length 0,.d (.int .u8 c.toNat),x4 5,x4 6,x4 7,x4 8,.d (.int .u8 c.toNat),x4 10,x4 11,x4 12,x4 13,x4 14,x4 15,x4 16,x4 17,x4 18,x4 19,x4 20,x4 21,x4 22,x4 23,x4 24,x4 25,x4 26,x4 27,x4 28,x4 29,x4 30,x4 31,x4 32,x4 33,x4 34,x4 35,x4 36,x4 37,x4 38,x4 39,x4 40,x4 41,x4 42,x4 43,x4 44,x4 45,x4 46,x4 47,x4 48,x4 49,boolD false,x4 51,x4 52,x4 53,x4 54,x4 55,x4 56,x4 57,x4 58,x4 59,x4 60,x4 61,x4 62],_⟩) c4_0 (hS.e 0) hi4 (hll _) (by simp only[zz,simprocAttr];rfl) ?_
    intro g6 a6 w6 hw6 hi6 hx6
    have ht6:=ht4.step hw6
    obtain⟨row,hbl,hmv,hwr⟩:=ht6.use h0 hi6.heap
    have hp3:a6.eval (.tmp 3)= .pointer (some ⟨b,0,none⟩):=by
     rw[Inv.ptr (n:=H0.length) hi6 rfl,ht6.rho]
    have hp9:a6.eval (.tmp 9)= .int .u8 c.toNat:=Inv.num hi6 rfl
    refine QhL o4_1.2.1 o4_1.1 fn61 (R:=fun e w'=>e= .returned .nilIface∧Qq1 b (acc++ [c]) row w6 w') ?_ ?_
    ·rw[show(#[Operand.tmp 3,Operand.tmp 9].map a6.eval)= #[a6.eval (.tmp 3),a6.eval (.tmp 9)] by simp,hp3,hp9]
     exact wb_any c hbl (by omega)
    rintro e w8 ⟨rfl,hm8⟩
    refine⟨_,rfl, ?_⟩
    obtain⟨hf8,ht8⟩:=hwr w8 _ hm8
    rw[o4_1.2.2]
    have hi8:=(hf8.inv hi6).put (d:=10) (x:= .undef) (v:= .nilIface) (.undef _) (fun _ e=>by cases e)
    show Code.wp Tryd.prog p41_5 _ _ w8
    refine QfA hS k41_5 rfl hi8 (hll _) (v41_5 (fun i=>([.ptr r 0,x4 1,x4 2,.ptr H0.length 0,.d (.int .u8 c.toNat),x4 5,x4 6,x4 7,x4 8,.d (.int .u8 c.toNat),x4 10,x4 11,x4 12,x4 13,x4 14,x4 15,x4 16,x4 17,x4 18,x4 19,x4 20,x4 21,x4 22,x4 23,x4 24,x4 25,x4 26,x4 27,x4 28,x4 29,x4 30,x4 31,x4 32,x4 33,x4 34,x4 35,x4 36,x4 37,x4 38,x4 39,x4 40,x4 41,x4 42,x4 43,x4 44,x4 45,x4 46,x4 47,x4 48,x4 49,boolD false,x4 51,x4 52,x4 53,x4 54,x4 55,x4 56,x4 57,x4 58,x4 59,x4 60,x4 61,x4 62].set 10 AV.undef).getD i .undef) gr hl (by omega)) ?_ (fun _ h=>h.elim)
    rintro e st9 g9 a9 w9 ⟨rfl,x9,rfl⟩ hw9 hi9 hx9
    have ht9:=ht8.step hw9
    rw[Qnk hr]at hi9
    show Qgw Tryd.prog Qm0 _ _ _
    exact ih (s.length-(q+1)) (by omega) (x:=x9) rfl (by omega) (by simp;omega) (by omega) hts ht9 hi9
end
end Go.Proofs.YtmhmjlfajlpabaaDoor
set_option maxHeartbeats 2000000
set_option linter.unusedVariables false
namespace Go.Proofs.YtmhmjlfajlpabaaDoor
open Go Go.Abs Go.Proofs Go.RowKit Go.Lib
theorem fn41:QlD Tryd.prog 41:=⟨_,Tryd.func41,by kernel_rfl,by kernel_rfl⟩
theorem body41:Tryd.f41.body=some b41:=by kernel_rfl
theorem nt41:Tryd.f41.ntmps=63:=by kernel_rfl
theorem Bld.new(w:World):Bld w.heap.size [] none (w.alloc (.cells #[.pointer none,.slice none 0 0] 78)):=
 ⟨.pointer none,.slice none 0 0,.inl rfl,⟨QaO _ _,⟨rfl,.inl ⟨rfl,rfl⟩⟩,by simp[Value.ownBlock],fun _=>rfl⟩,rfl⟩
theorem QiC(hS:EnvS Tryd.prog pf (QaH code QaL) (QcH code pf QaL (fun _=>none))){g0:Gh}{w0:World}{H0:Qaa}{lim r:Nat}{s:Tx}{p:Nat}(h0:HeapOK g0 H0 w0)(hn:∀b,g0.own b≠ .res)(gr:H0[r]? =some (rdO s p))(hl:lim≤r)(hlim:lim≤H0.length)(hs:s.length≤16384)(hp:p≤s.length)
  {vals:Array Value}(hv0:1=vals.size)(hv:∀(i:Nat) x v,[AV.ptr r 0][i]? =some x→vals[i]? =some v→VR g0 w0 x v∧FOK g0 w0 (.slot i) x v):
  Calls Tryd.prog 41 vals w0 (TRes g0 w0 H0 lim r s p):=by
 have hr:=(List.getElem?_eq_some_iff.1 gr).1
 refine calls_of_wp Tryd.func41 body41 ?_
 rw[nt41,b41_eq]
 have hi0:Inv g0 ⟨_,H0⟩ { tmps:=vals++Array.replicate (63-vals.size) undef,defers:= [] } w0:=Qd9 (args:= [.ptr r 0]) h0 hn hv0 hv 63
 refine wp_seq (QfA hS k41_0 rfl hi0 hlim (v41_0 (fun _=> .tuple [])) ?_ (fun _ h=>h.elim))
 rintro e st1 g1 a1 w1 ⟨rfl,x1,rfl⟩ hw1 hi1 hx1
 show Code.wp Tryd.prog (.seq p41_1 _) _ a1 w1
 refine wp_seq (QfA hS k41_1 rfl hi1 hlim (v41_1 x1 gr hl hs hp) ?_ ?_)
 rotate_left
 ·rintro _ ⟨hw,rfl⟩
  intro g' H' v a' w' k0 k1 kx k2 k3
  exact QlY hw1 (Ext.refl _ _) (er:=(11,p)) (by unfold Qbq;rw[hw]) g' H' v a' w' k0 k1 kx k2 k3
 rintro e st2 g2 a2 w2 ⟨rfl,hw,x2,rfl⟩ hw2 hi2 hx2
 have hpl:=(QeI hw).2
 have hts:Qbq s p=QaW s (s.length+1) [] (p+1):=by unfold Qbq;rw[hw]
 show Code.wp Tryd.prog (.seq p41_2 _) _ a2 w2
 refine wp_seq (r2_wp ?_)
 show Code.wp Tryd.prog (.block 0 (.loop Qm0)) _ _ _
 have hlen:(H0.set r (rdO s (p+1))).length=H0.length:=List.length_set
 have hnn:g2.n=H0.length:=by rw[hi2.heap.n,hlen]
 have hnew:=hi2.heap.new w2.heap.size (Nat.le_refl _)
 have hf:Frn g2 w2 (w2.alloc (.cells #[.pointer none,.slice none 0 0] 78)):=⟨rfl,rfl,rfl,by simp,fun k hk _=>heap_alloc _ _ _ hk⟩
 have hi3:=hf.inv hi2
 have hw3:=hf.wf h0 (hw1.trans hw2) fun k hk=>heap_alloc _ _ _ (Nat.lt_of_lt_of_le hk (hw1.trans hw2).size)
 have hwd:=Qjv g2 (w2.alloc (.cells #[.pointer none,.slice none 0 0] 78)) w2.heap.size
 have hi4:Inv (g2.dead2 w2.heap.size) ⟨TS r H0.length (fun i=>if i=3 then .tuple []else x2 i),H0.set r (rdO s (p+1))++ [.dead]⟩ (a2.put (some 3) (.pointer (some ⟨w2.heap.size,0,none⟩))) (w2.alloc (.cells #[.pointer none,.slice none 0 0] 78)):=by
  have hrho:(g2.dead2 w2.heap.size).rho H0.length=w2.heap.size:=by simp[Gh.dead2,hnn]
  have hlt:H0.length<(g2.dead2 w2.heap.size).n:=by show H0.length<g2.n+1;omega
  have hvp:VR (g2.dead2 w2.heap.size) (w2.alloc (.cells #[.pointer none,.slice none 0 0] 78)) (.ptr H0.length 0) (.pointer (some ⟨w2.heap.size,0,none⟩)):=by
   have:=VR.ptr (g:=g2.dead2 w2.heap.size) (w:=w2.alloc (.cells #[.pointer none,.slice none 0 0] 78)) H0.length 0 hlt
   rwa [hrho]at this
  have hid:Inv (g2.dead2 w2.heap.size) ⟨[.ptr r 0,x2 1,x2 2,x2 3,x2 4,x2 5,x2 6,x2 7,x2 8,x2 9,x2 10,x2 11,x2 12,x2 13,x2 14,x2 15,x2 16,x2 17,x2 18,x2 19,x2 20,x2 21,x2 22,x2 23,x2 24,x2 25,x2 26,x2 27,x2 28,x2 29,x2 30,x2 31,x2 32,x2 33,x2 34,x2 35,x2 36,x2 37,x2 38,x2 39,x2 40,x2 41,x2 42,x2 43,x2 44,x2 45,x2 46,x2 47,x2 48,x2 49,x2 50,x2 51,x2 52,x2 53,x2 54,x2 55,x2 56,x2 57,x2 58,x2 59,x2 60,x2 61,x2 62],H0.set r (rdO s (p+1))++ [.dead]⟩ a2 (w2.alloc (.cells #[.pointer none,.slice none 0 0] 78)):=
   ⟨Qoo hi3.heap _,hi3.size,fun i y v hy hv=>⟨hwd.vr (hi3.tok i y v hy hv).1,(hi3.tok i y v hy hv).2.keep fun b hb=>⟨hb,rfl,fun cs e fr hh hz=>⟨cs,fr,hh,rfl,hz⟩⟩⟩,hi3.nores,hi3.defers⟩
  exact hid.put (d:=3) hvp (fun _ e=>by cases e)
 have hti:TI g0 w0 H0.length w2.heap.size [] (g2.dead2 w2.heap.size) (w2.alloc (.cells #[.pointer none,.slice none 0 0] 78)):=
  ⟨hw3.trans hwd,by show H0.length<g2.n+1;omega,by simp[Gh.dead2,hnn],⟨(hw1.trans hw2).size,hnew.1,hnew.2⟩,none,Bld.new w2,fun k hk=>by cases hk⟩
 exact wp_block (Qhy (Qo4 hS h0 hr hl hlim hs (s.length-(p+1)) (x:=fun i=>if i=3 then .tuple []else x2 i) rfl hpl (by simp) (by omega) hts hti hi4))
end Go.Proofs.YtmhmjlfajlpabaaDoor
set_option maxHeartbeats 1000000
namespace Go.Proofs.YtmhmjlfajlpabaaDoor
open Go Go.Abs Go.Proofs Go.RowKit Go.Lib
theorem Qo5{lim:Nat}{args:List AV}{H H':Qaa}{v:AV}(h:Qkl lim args H=some (v,H')):
  ∃r s p t q,args= [.ptr r 0]∧H[r]? =some (rdO s p)∧lim≤r∧p≤s.length∧s.length≤16384∧Qbq s p= .ok (t,q)∧v= .d (.str t)∧H'=H.set r (rdO s q):=by
 unfold Qkl at h
 split at h
 ·rename_i r
  split at h
  ·rename_i s p hg
   split at h
   ·rename_i hc
    split at h
    ·rename_i t q ht
     simp only[Option.some.injEq,Prod.mk.injEq]at h
     obtain⟨rfl,rfl⟩:=h
     obtain⟨n,rfl⟩:∃n:Nat,p=(n:Int):=⟨p.toNat,by omega⟩
     exact⟨r,s,n,t,q,rfl,hg,hc.1,by omega,hc.2.2.2,ht,rfl,rfl⟩
    ·cases h
   ·cases h
  ·cases h
 ·cases h
theorem QnQ{lim:Nat}{args:List AV}{H:Qaa}{v:PV}(h:Qg7 lim args H=some v):
  ∃r s p er,args= [.ptr r 0]∧H[r]? =some (rdO s p)∧lim≤r∧p≤s.length∧s.length≤16384∧Qbq s p= .error er∧v=QdV er.1 er.2:=by
 unfold Qg7 at h
 split at h
 ·rename_i r
  split at h
  ·rename_i s p hg
   split at h
   ·rename_i hc
    split at h
    ·cases h
    ·rename_i e q ht
     simp only[Option.some.injEq]at h
     subst h
     obtain⟨n,rfl⟩:∃n:Nat,p=(n:Int):=⟨p.toNat,by omega⟩
     exact⟨r,s,n,(e,q),rfl,hg,hc.1,by omega,hc.2.2.2,ht,rfl⟩
   ·cases h
  ·cases h
 ·cases h
theorem text_sound(hS:EnvS Tryd.prog pf X1 XP1):FSound Tryd.prog 41 Qkl:=by
 intro lim args H a H' h hlim
 obtain⟨r,s,p,t,q,rfl,gr,hl,hp,hs,ht,rfl,rfl⟩:=Qo5 h
 refine⟨Ext.set _ hl,fun vals g w hH hn hv0 hv=> .inl ⟨fn41,(QiC hS hH hn gr hl hlim hs hp hv0 hv).mono ?_⟩⟩
 rintro e w' (⟨t',q',v,g',h1,rfl,h2,h3,h4⟩|⟨er,v,g',H',h1,_⟩)
 ·rw[ht]at h1;cases h1
  exact⟨v,g',rfl,h2,h3,h4,FOK.triv (Triv.d _ _)⟩
 ·rw[ht]at h1;cases h1
theorem QlI(hS:EnvS Tryd.prog pf X1 XP1):PSound Tryd.prog 41 Qg7:=by
 intro lim args H t x h hlim
 obtain⟨r,s,p,er,rfl,gr,hl,hp,hs,ht,hv⟩:=QnQ h
 cases hv
 refine⟨fn41,fun vals g w hH hn hv0 hv=>(QiC hS hH hn gr hl hlim hs hp hv0 (fun i x v h1 h2=>⟨(hv i x v h1 h2).1,FOK.triv (hv i x v h1 h2).2⟩)).mono ?_⟩
 rintro e w' (⟨t',q',v,g',h1,_⟩|⟨er',v,g',H',h1,rfl,h2,h3,h4,h5⟩)
 ·rw[ht]at h1;cases h1
 ·rw[ht]at h1;cases h1
  exact⟨v,g',H',rfl,h2,h3,h4,h5⟩
end Go.Proofs.YtmhmjlfajlpabaaDoor
namespace Go.Proofs.YtmhmjlfajlpabaaDoor
open Go Go.Proofs
def renS:Go.Shelf.Ren:=⟨fun f=>(([(6,62),(15,76),(14,75),(28,90),(29,91),(20,82),(21,83),(22,84),(23,85),(24,86),(25,87),(26,88),(27,89),(46,96),(47,97),(48,98),(49,99),(50,100),(57,105)]:List (Nat×Nat)).lookup f).getD f,
 fun t=>(([(22,63),(24,3),(25,86),(3,3),(39,69),(0,0),(53,103),(55,98),(4,4),(46,106),(45,105),(50,110),(5,5),(9,9),(66,119),(70,123),(76,129),(77,51)]:List (Nat×Nat)).lookup t).getD t,fun g=>g⟩
theorem Qnj:SlLaysF.n6 Tryd.prog renS:=by
 constructor
 case f6=>first|exact⟨Tryd.f62.name,by decide,by kernel_rfl⟩|kernel_rfl
 case f15=>first|exact⟨Tryd.f76.name,by decide,by kernel_rfl⟩|kernel_rfl
 case f14=>first|exact⟨Tryd.f75.name,by decide,by kernel_rfl⟩|kernel_rfl
 case f28=>first|exact⟨Tryd.f90.name,by decide,by kernel_rfl⟩|kernel_rfl
 case f29=>first|exact⟨Tryd.f91.name,by decide,by kernel_rfl⟩|kernel_rfl
 case f20=>first|exact⟨Tryd.f82.name,by decide,by kernel_rfl⟩|kernel_rfl
 case f21=>first|exact⟨Tryd.f83.name,by decide,by kernel_rfl⟩|kernel_rfl
 case f22=>first|exact⟨Tryd.f84.name,by decide,by kernel_rfl⟩|kernel_rfl
 case f23=>first|exact⟨Tryd.f85.name,by decide,by kernel_rfl⟩|kernel_rfl
 case f24=>first|exact⟨Tryd.f86.name,by decide,by kernel_rfl⟩|kernel_rfl
 case f25=>first|exact⟨Tryd.f87.name,by decide,by kernel_rfl⟩|kernel_rfl
 case f26=>first|exact⟨Tryd.f88.name,by decide,by kernel_rfl⟩|kernel_rfl
 case f27=>first|exact⟨Tryd.f89.name,by decide,by kernel_rfl⟩|kernel_rfl
 case f46=>first|exact⟨Tryd.f96.name,by decide,by kernel_rfl⟩|kernel_rfl
 case f47=>first|exact⟨Tryd.f97.name,by decide,by kernel_rfl⟩|kernel_rfl
 case f48=>first|exact⟨Tryd.f98.name,by decide,by kernel_rfl⟩|kernel_rfl
 case f49=>first|exact⟨Tryd.f99.name,by decide,by kernel_rfl⟩|kernel_rfl
 case f50=>first|exact⟨Tryd.f100.name,by decide,by kernel_rfl⟩|kernel_rfl
 case f57=>first|exact⟨Tryd.f105.name,by decide,by kernel_rfl⟩|kernel_rfl
 all_goals first|kernel_rfl|exact fun w=>by kernel_rfl
end Go.Proofs.YtmhmjlfajlpabaaDoor
set_option maxHeartbeats 1000000
namespace Go.Proofs.YtmhmjlfajlpabaaDoor
open Go Go.Proofs Go.RowKit
def cmpB(ki kj:ByteArray):Int:=if Op.bytesLess ki.toList kj.toList then-1 else if ki.toList==kj.toList then 0 else 1
theorem gtr_run(a b:ByteArray)(w:World):(binOp .gtr 9 (.string a) (.string b)).run Tryd.prog w= .ok (.bool (!Op.bytesLess a.toList b.toList&& !a.toList==b.toList)) w:=by
 have u9:Tryd.prog.underlying 9=some .string:=by kernel_rfl
 simp[binOp,run_underlying u9,Op.stringOp]
theorem cmp63(W:World)(kb sb so n cap i j:Nat)(ki kj:ByteArray)(hk:W.cell? ⟨kb,0,none⟩=some (.slice (some ⟨sb,so,none⟩) n cap))(hi:i<n)(hj:j<n)
  (ci:W.cell? ⟨sb,so+i,none⟩=some (.string ki))(cj:W.cell? ⟨sb,so+j,none⟩=some (.string kj)):
  Calls Tryd.prog 63 #[.int .i64 i,.int .i64 j,.pointer (some ⟨kb,0,none⟩)] W fun e w'=>e= .returned (.int .i64 (cmpB ki kj))∧∃q,w'=W.drewN q:=by
 unfold cmpB
 cases h1:Op.bytesLess ki.toList kj.toList with
 |true=>
  go_enter Tryd.func63,Tryd.ntmps63
  go_wp2
  go_quiet (fail)
  go_wp2
  go_ret
  exact⟨rfl,_,rfl⟩
 |false=>
  have hg:=gtr_run ki kj
  simp only[h1]at hg
  cases h2:ki.toList==kj.toList with
  |true=>
   go_enter Tryd.func63,Tryd.ntmps63
   go_wp2
   go_quiet (fail)
   go_wp2
   go_quiet (fail)
   go_wp2
   go_ret
   exact⟨rfl,_,rfl⟩
  |false=>
   go_enter Tryd.func63,Tryd.ntmps63
   go_wp2
   go_quiet (fail)
   go_wp2
   go_quiet (fail)
   go_wp2
   go_ret
   exact⟨rfl,_,rfl⟩
end Go.Proofs.YtmhmjlfajlpabaaDoor
set_option maxHeartbeats 1000000
namespace Go.Proofs.YtmhmjlfajlpabaaDoor
open Go Go.Abs Go.Proofs Go.RowKit Go.Lib
theorem Qkm:∀ {xs:List D} {ks:List Tx},QdU xs=some ks→xs=ks.map D.str
 | [],_,h=>by cases h;rfl
 |.str s::l,ks,h=>by
  simp only[QdU,Option.map_eq_some_iff]at h
  obtain⟨r,h1,rfl⟩:=h
  rw[Qkm h1];rfl
 |.int _ _::_,_,h=>by simp[QdU]at h
 |.bool _::_,_,h=>by simp[QdU]at h
 |.agg _::_,_,h=>by simp[QdU]at h
 |.slice _::_,_,h=>by simp[QdU]at h
 |.nilptr::_,_,h=>by simp[QdU]at h
theorem Qpb{lim:Nat}{args:List AV}{H H':Qaa}{a:AV}(h:QlP lim args H=some (a,H')):
  ∃r k c ks,args= [.oslice r 0 ks.length c 1,.func (.func 63) [.ptr k 0]]∧H[r]? =some (.cells ((List.range ks.length).map fun(i:Nat)=>intD (i:Int)))∧H[k]? =some (.cells [.d (.slice (ks.map D.str))])∧lim≤r∧r≠k∧ks.length<1000000000000∧ks.Nodup∧a= .tuple []∧
   H'=H.set r (.cells ((Qar ks).map fun(i:Nat)=>intD (i:Int))):=by
 unfold QlP at h
 split at h
 ·rename_i r n c k
  split at h
  ·rename_i cs xs h1 h2
   split at h
   ·rename_i ks h3
    split at h
    ·rename_i hc
     obtain⟨c1,c2,c3,c4,c5,c6,c7⟩:=hc
     simp only[Option.some.injEq,Prod.mk.injEq]at h
     obtain⟨rfl,rfl⟩:=h
     subst c3
     have e:=AV.beqs_eq c7
     subst e
     rw[Qkm h3]at h2
     exact⟨r,k,c,ks,rfl,h1,h2,c1,c2,c4,c5,rfl,rfl⟩
    ·cases h
   ·cases h
  ·cases h
 ·cases h
def bytesV:Value→ByteArray
 |.string s=>s
 |_=>default
theorem QnS{bd:Nat→Nat}{w:World}{ks:List Tx}{v:Value}(h:DR bd w (.slice (ks.map D.str)) v)(hne:ks≠ []):
  ∃b off cap,∃B:Nat→ByteArray,v= .slice (some ⟨b,off,none⟩) ks.length cap∧∀i,i<ks.length→off+i<bd b∧w.cell? ⟨b,off+i,none⟩=some (.string (B i))∧(B i).data.toList=ks.getD i []:=by
 generalize e:(D.slice (ks.map D.str))=x at h
 cases h with
 |slice xs b off len cap sz vs hlen hcap hu hf hc hd=>
  injection e with e
  subst e
  simp only[List.length_map]at hlen hc
  have hsz:sz=1:=by
   obtain⟨k,l,rfl⟩:=List.exists_cons_of_ne_nil hne
   have:=hu (.str k) (by simp)
   exact this.symm
  subst hsz
  refine⟨b,off,cap,fun i=>bytesV (vs i),by rw[hlen],fun i hi=> ?_⟩
  obtain⟨q1,q2⟩:=hc i (by omega)
  have q3:=hd i 0 (.str ks[i]) (.str ks[i]) (by rw[List.getElem?_map,List.getElem?_eq_getElem hi];rfl) rfl
  simp only[Nat.mul_one,Nat.add_zero]at q3
  refine⟨q1, ?_, ?_⟩<;>simp only
  ·generalize vs i=u at q3 q2
   cases q3 with
   |str _ s hs=>exact q2
  ·generalize vs i=u at q3 q2
   cases q3 with
   |str _ s hs=>rw[show bytesV (.string s)=s from rfl,hs];simp only[List.getD,List.getElem?_eq_getElem hi,Option.getD_some]
 |slnil=>injection e with e;simp at e;exact absurd e hne
 |sle a cap=>injection e with e;simp at e;exact absurd e hne
 |_=>cases e
theorem fin_vals(n:Nat):(List.finRange n).map Fin.val=List.range n:=by
 apply List.ext_getElem<;>simp
theorem fn62:QlD Tryd.prog 62:=⟨_,Tryd.func62,by kernel_rfl,by kernel_rfl⟩
theorem cmpB_lt(a b:ByteArray):decide (cmpB a b<0)=decide (a.data.toList<b.data.toList):=by
 unfold cmpB
 rw[QqK,toList_data,toList_data]
 by_cases h:a.data.toList<b.data.toList
 ·simp[h]
 ·simp only[h,decide_false,Bool.false_eq_true,if_false]
  split<;>simp
theorem QnX{g:Gh}{w:World}{H:Qaa}(hH:HeapOK g H w){r k c:Nat}{ks:List Tx}
  (gr:H[r]? =some (.cells ((List.range ks.length).map fun(i:Nat)=>intD (i:Int))))(gk:H[k]? =some (.cells [.d (.slice (ks.map D.str))]))(hrk:r≠k)(hn:ks.length<1000000000000)(hd:ks.Nodup){vals:Array Value}(hv0:2=vals.size)
  (hv:∀(i:Nat) x v,[AV.oslice r 0 ks.length c 1,.func (.func 63) [.ptr k 0]][i]? =some x→vals[i]? =some v→VR g w x v∧FOK g w (.slot i) x v):
  Calls Tryd.prog 62 vals w fun e w'=>∃v g',e= .returned v∧WF g w g' w'∧HeapOK g' (H.set r (.cells ((Qar ks).map fun(i:Nat)=>intD (i:Int)))) w'∧VR g' w' (.tuple []) v∧FOK g' w' .res (.tuple []) v:=by
 obtain⟨v0,v1,rfl⟩:∃v0 v1,vals= #[v0,v1]:=⟨vals[0],vals[1],by
  apply Array.ext
  ·simpa using hv0.symm
  ·intro i h1 h2
   simp at h2
   rcases(by omega:i=0∨i=1)with rfl|rfl<;>rfl⟩
 have hv1:=(hv 0 _ v0 rfl rfl).1
 have hv2:=(hv 1 _ v1 rfl rfl).1
 obtain⟨hrn,vs,e,fr,h1,⟨h2a,h2b⟩,h3,h4,h5⟩:=hH.get gr
 obtain⟨hkn,us,e',fr',k1,⟨k2a,k2b⟩,k3,k4,k5⟩:=hH.get gk
 have har:=QcZ gr (by simp)
 have hak:=QcZ gk (by simp)
 have hb:g.rho r<w.heap.size:=hH.rho_lt hrn har
 simp only[List.length_map,List.length_range]at h2a
 cases hv1 with
 |osl _ _ _ _ cap' _ q1 q2 q3 q4=>
 cases hv2 with
 |func _ _ vs2 p1 p2 p3=>
 obtain⟨u0,rfl⟩:∃u0,vs2= #[u0]:=⟨vs2[0]'(by simp at p1;omega),by
  apply Array.ext
  ·simp at p1⊢;omega
  ·intro i a b
   simp at b;subst b;rfl⟩
 have hp:=p2 0 _ u0 rfl rfl
 cases hp with
 |ptr _ _ hlt=>
 by_cases hne:ks= []
 ·subst hne
  have:=AnyF.slices_SortFunc_none (P:=Tryd.prog) (ρ:=renS) { Qnj with } (some ⟨g.rho r,0,none⟩) cap' (.func (.func 63) #[] #[.pointer (some ⟨g.rho k,0,none⟩)]) w
  refine Calls.mono this ?_
  rintro _ _ ⟨rfl,rfl⟩
  refine⟨_,g,rfl,.refl _ _, ?_,.tuple [] #[] rfl (fun i c v h=>by simp at h) (fun i c v h=>by simp at h),FOK.ne (by simp)⟩
  have e1:H.set r (.cells ((Qar []).map fun(i:Nat)=>intD (i:Int)))=H:=by
   apply List.ext_getElem?
   intro i
   rw[List.getElem?_set]
   split
   ·rename_i hi;subst hi
    rw[gr]
    simp[(List.getElem?_eq_some_iff.1 gr).1,Qar,QnY]
   ·rfl
  rw[e1];exact hH
 ·obtain⟨m,hm⟩:∃m,ks.length=m+1:=⟨ks.length-1,by have:=List.length_pos_iff.2 hne;omega⟩
  have u0v:∃u,us[0]? =some u∧DR g.bd w (.slice (ks.map D.str)) u:=by
   have:0<us.size:=by simp at k2a;omega
   refine⟨us[0],Array.getElem?_eq_getElem this, ?_⟩
   have:=(k5 0 _ us[0] rfl (Array.getElem?_eq_getElem this)).1
   cases this with
   |d _ _ h=>exact h
  obtain⟨u,hu0,hu⟩:=u0v
  obtain⟨sb,so,scap,B,rfl,hB⟩:=QnS hu hne
  have hsb:sb≠g.rho r:=fun e=>by
   have:=(hB 0 (by omega)).1
   rw[e,(hH.own r hrn har).2]at this
   omega
  have hkb:g.rho k≠g.rho r:=fun e=>hrk (hH.rho_inj hrn hkn har hak e.symm)
  have hsbl:sb<w.heap.size:=hH.bd_lt (hB 0 (by omega)).1
  have hkbl:g.rho k<w.heap.size:=hH.rho_lt hkn hak
  have hinj:∀i j:Fin (m+1),(B i).data.toList=(B j).data.toList→i=j:=fun i j h=>by
   have hi:i.1<ks.length:=by omega
   have hj:j.1<ks.length:=by omega
   rw[(hB i.1 hi).2.2,(hB j.1 hj).2.2]at h
   exact Fin.ext (QkZ hd hi hj h)
  let enc:Fin (m+1)→Value:=fun i=> .int .i64 (i.1:Nat)
  let cf:Fin (m+1)→Fin (m+1)→Int:=fun i j=>cmpB (B i) (B j)
  have hlt:∀i j,ltOf cf i j=decide ((B i).data.toList<(B j).data.toList):=fun i j=>cmpB_lt _ _
  have swo:Go.Sort.SWO (ltOf cf):=by
   refine⟨fun x=> ?_,fun x y z h1 h2=> ?_,fun x y z h1 h2=> ?_⟩
   ·rw[hlt];simp[List.lt_irrefl]
   ·rw[hlt]at*;simp only[decide_eq_true_eq]at*;exact List.lt_trans h1 h2
   ·rw[hlt]at*
    simp only[decide_eq_false_iff_not,List.not_lt]at*
    exact List.le_trans h2 h1
  have tot:∀x y,ltOf cf x y=false→ltOf cf y x=false→x=y:=fun x y h1 h2=>by
   rw[hlt]at h1 h2
   simp only[decide_eq_false_iff_not,List.not_lt]at h1 h2
   exact hinj x y (List.le_antisymm h2 h1)
  have eg:∀args w,(callFunc 63 args).run Tryd.prog w= .ok (.enter 63 args) w:=enters_of Tryd.func63 (by kernel_rfl) rfl
  let d:Array (Fin (m+1)):=(List.finRange (m+1)).toArray
  have hds:d.size=m+1:=by simp[d]
  have hdj:∀(j:Nat) (hj:j<m+1),d[j]! =⟨j,hj⟩:=fun j hj=>by
   rw[getElem!_pos d j (by omega)]
   simp[d]
  have hHd:Go.Sort.Holds enc w (g.rho r) 0 d:=fun j hj=>by
   rw[hds]at hj
   have hjs:j<vs.size:=by omega
   refine⟨?_, ?_⟩
   ·rw[Nat.zero_add,QaI h1,Array.getElem?_eq_getElem hjs]
    have:=(h5 j (intD (j:Nat)) vs[j] (by simp[List.getElem?_map,List.getElem?_range,hm,hj]) (Array.getElem?_eq_getElem hjs)).1
    rw[hdj j hj]
    generalize vs[j]=vj at this
    cases this with
    |d _ _ h=>cases h;rfl
   ·rw[Nat.zero_add];exact QbK h1 h3 hjs
  have reads:CmpReads Tryd.prog 63 #[.pointer (some ⟨g.rho k,0,none⟩)] enc cf (g.rho r) 0 (m+1) w:=by
   intro q os dk hs x y
   have hx:x.1<ks.length:=by omega
   have hy:y.1<ks.length:=by omega
   have hcell:∀(b o:Nat),b≠g.rho r→b<w.heap.size→(sortWorld enc w (g.rho r) 0 q dk os).cell? ⟨b,o,none⟩=w.cell? ⟨b,o,none⟩:=fun b o h1 h2=>by
    unfold sortWorld
    rw[Go.Sort.cell?_grow _ _ _ (by simpa using h2),Go.Sort.cell?_putRow_other _ _ _ _ _ _ (.inl h1),Go.Sort.cell?_ahead]
   exact cmp63 _ (g.rho k) sb so ks.length scap x.1 y.1 (B x) (B y) (by rw[hcell _ _ hkb hkbl,QaI k1];exact hu0) hx hy (by rw[hcell _ _ hsb hsbl];exact(hB x.1 hx).2.1) (by rw[hcell _ _ hsb hsbl];exact(hB y.1 hy).2.1)
  have hS:=Any.slices_SortFunc_total Qnj enc (fun _=>rfl) cf swo 63 #[.pointer (some ⟨g.rho k,0,none⟩)] (g.rho r) 0 cap' d w eg (by rw[hds];exact reads.lays) hHd hb (by rw[hds];omega) tot
  rw[show d.size=ks.length by rw[hds,hm]]at hS
  refine Calls.mono hS ?_
  rintro _ _ ⟨rfl,q,os,rfl⟩
  have hrow:((List.finRange (m+1)).mergeSort fun x y=> !ltOf cf y x).map Fin.val=Qar ks:=by
   rw[←Qls hd,List.map_mergeSort (s:=fun i j=> !tless (ks.getD j []) (ks.getD i [])),fin_vals,hm]
   intro i _ j _
   rw[hlt,tless,QqK,(hB i.1 (by omega)).2.2,(hB j.1 (by omega)).2.2]
  have hys:(d.toList.mergeSort fun x y=> !ltOf cf y x)=((List.finRange (m+1)).mergeSort fun x y=> !ltOf cf y x):=rfl
  rw[hys]
  generalize hgy:((List.finRange (m+1)).mergeSort fun x y=> !ltOf cf y x)=ys at hrow
  have hyl:ys.length=m+1:=by rw[←hgy,List.length_mergeSort];simp
  rw[show sortWorld enc w (g.rho r) 0 q ys.toArray os=Go.Sort.grow ((w.drewN q).setCells (g.rho r) 0 (ys.map enc)) os from sorted_world enc w (g.rho r) 0 q d ys os hHd (by rw[hyl,hds])]
  have f1:Frn g w (w.drewN q):=⟨rfl,rfl,rfl,Nat.le_refl _,fun _ _ _=>rfl⟩
  have hH1:=f1.heap hH
  have hw1:WF g w g (w.drewN q):=f1.wf hH (.refl _ _) fun _ _=>rfl
  obtain⟨ht,hor,_⟩:=QdH (P:=Tryd.prog) hH1 (r:=r) (us:=ys.map enc) (ds:=(Qar ks).map fun(i:Nat)=>intD (i:Int)) (off:=0) gr (by simp[hyl,hm]) (by rw[←hrow];simp) (fun c hc=>by
   obtain⟨i,_,rfl⟩:=List.mem_map.1 hc;rfl) (fun i c v hc hv=>by
   rw[←hrow]at hc
   simp only[List.getElem?_map,Option.map_map,Option.map_eq_some_iff]at hc hv
   obtain⟨a,ha,rfl⟩:=hc
   obtain⟨b,hb,rfl⟩:=hv
   rw[ha]at hb;cases hb
   exact⟨.d _ _ (.int _ _),FOK.triv (Triv.d _ _)⟩)
  have hspl:splice ((List.range ks.length).map fun(i:Nat)=>intD (i:Int)) 0 ((Qar ks).map fun(i:Nat)=>intD (i:Int))=(Qar ks).map fun(i:Nat)=>intD (i:Int):=by
   unfold splice
   rw[List.take_zero,List.nil_append,List.drop_eq_nil_of_le (by rw[←hrow];simp[hyl,hm]),List.append_nil]
  rw[hspl]at hor
  have hH2:=QcS hH1 hrn har ht hor
  have hw2:=QbG hH1 hrn har ht
  have f3:Frn g ((w.drewN q).setCells (g.rho r) 0 (ys.map enc)) (Go.Sort.grow ((w.drewN q).setCells (g.rho r) 0 (ys.map enc)) os):=⟨rfl,rfl,rfl,by simp,fun k hk _=>Go.Sort.heap_grow_old _ _ hk⟩
  have hH3:=f3.heap hH2
  have hw3:=f3.wf hH2 (.refl _ _) fun k hk=>Go.Sort.heap_grow_old _ _ hk
  exact⟨_,g,rfl,(hw1.trans hw2).trans hw3,hH3,.tuple [] #[] rfl (fun i c v h=>by simp at h) (fun i c v h=>by simp at h),FOK.ne (by simp)⟩
theorem QnW:FSound Tryd.prog 62 QlP:=by
 intro lim args H a H' h hlim
 obtain⟨r,k,c,ks,rfl,gr,gk,hl,hrk,hn,hd,rfl,rfl⟩:=Qpb h
 exact⟨Ext.set _ hl,fun vals g w hH hn' hv0 hv=> .inl ⟨fn62,QnX hH gr gk hrk hn hd hv0 hv⟩⟩
end Go.Proofs.YtmhmjlfajlpabaaDoor
set_option maxHeartbeats 1000000
namespace Go.Proofs.YtmhmjlfajlpabaaDoor
open Go Go.Abs Go.Proofs Go.RowKit
theorem QkQ{P:Program}{f:FuncId}(hf:QlD P f){k:IntKind}{ok:Int→Prop} [DecidablePred ok]{out:Int→D}{res:Int→Value}
  (hr:∀(bd:Nat→Nat) (w:World) n,ok n→DR bd w (out n) (res n))
  (h:∀(w:World) (n:Int),ok n→Calls P f #[.int k n] w fun e w'=>e= .returned (res n)∧w'=w):
  FSound P f fun _ args H=>match args with
   | [.d (.int k' n)]=>if k'=k∧ok n then some (.d (out n),H)else none
   |_=>none:=by
 intro lim args H a H' hF hlim
 simp only at hF
 split at hF
 ·rename_i k' n
  split at hF
  ·rename_i hok
   obtain⟨rfl,hok⟩:=hok
   simp only[Option.some.injEq,Prod.mk.injEq]at hF
   obtain⟨rfl,rfl⟩:=hF
   refine⟨Ext.refl _ _,fun vals g w hH hn hl hv=> .inl ⟨hf, ?_⟩⟩
   obtain⟨vl⟩:=vals
   match vl,hl with
   | [u],_=>
     have h0:=(hv 0 _ u rfl (by simp)).1
     cases h0 with
     |d _ _ h0=>cases h0 with
      |int=>
       refine Calls.mono (h w n hok) ?_
       rintro e w' ⟨rfl,rfl⟩
       exact⟨_,g,rfl,.refl _ _,hH,.d _ _ (hr _ _ n hok),fun xs e=>by cases e⟩
  ·cases hF
 ·cases hF
def ren91:Go.Shelf.Ren:=⟨fun f=>(([(129,91)]:List (Nat×Nat)).lookup f).getD f,fun t=>(([(53,98),(3,3),(4,4),(46,69),(5,5),(9,9)]:List (Nat×Nat)).lookup t).getD t,fun g=>g⟩
theorem lays91:Lays.n129 Tryd.prog ren91:=by
 constructor<;>first|kernel_rfl|exact fun w=>by kernel_rfl
def ren92:Go.Shelf.Ren:=⟨fun f=>(([(283,92)]:List (Nat×Nat)).lookup f).getD f,fun t=>(([(3,3),(9,9),(4,4)]:List (Nat×Nat)).lookup t).getD t,fun g=>g⟩
theorem lays92:Lays.n283 Tryd.prog ren92:=by
 constructor<;>first|kernel_rfl|exact fun w=>by kernel_rfl
def ren94:Go.Shelf.Ren:=⟨fun f=>(([(285,94)]:List (Nat×Nat)).lookup f).getD f,fun t=>(([(37,22),(53,98),(3,3),(4,4),(51,103),(9,9),(5,5),(0,0)]:List (Nat×Nat)).lookup t).getD t,fun g=>g⟩
theorem lays94:Lays.n285 Tryd.prog ren94:=by
 constructor<;>first|kernel_rfl|exact fun w=>by kernel_rfl
theorem small_eq{n:Nat}(h:n<100):QdX n=Lib.decDigits n:=by
 unfold QdX
 split
 ·rename_i h1;rw[Lib.decDigits_one h1]
 ·rename_i h1;rw[Lib.decDigits_two h1 h]
theorem fn91:QlD Tryd.prog 91:=⟨_,Tryd.func91,by kernel_rfl,by kernel_rfl⟩
theorem fn92:QlD Tryd.prog 92:=⟨_,Tryd.func92,by kernel_rfl,by kernel_rfl⟩
theorem fn94:QlD Tryd.prog 94:=⟨_,Tryd.func94,by kernel_rfl,by kernel_rfl⟩
theorem QlQ:FSound Tryd.prog 92 QiH:=by
 have:=QkQ (k:= .i64) fn92 (ok:=fun i=>0≤i∧i<100) (out:=fun i=> .str (QdX i.toNat)) (res:=fun i=> .string ⟨(Lib.decDigits i.toNat).toArray⟩)
  (fun bd w n hn=> .str _ _ (by rw[small_eq (by omega)])) fun w n hn=>by
    obtain⟨m,rfl⟩:∃m:Nat,n=(m:Int):=⟨n.toNat,by omega⟩
    exact Any.internal_strconv_small lays92 m (by omega) w
 refine this.less fun lim a H r hr=> ?_
 unfold QiH at hr
 split at hr
 ·simp only[true_and];exact hr
 ·cases hr
theorem Qma:FSound Tryd.prog 91 Qi4:=by
 have:=QkQ (k:= .u64) fn91 (ok:=fun i=>0≤i∧i<18446744073709551616) (out:=fun u=> .int .i64 (Lib.bitLen u.toNat:Nat)) (res:=fun u=> .int .i64 (Lib.bitLen u.toNat:Nat))
  (fun bd w n hn=> .int _ _) fun w n hn=>Any.bits_Len64 lays91 n w hn.1 (by omega)
 refine this.less fun lim a H r hr=> ?_
 unfold Qi4 at hr
 split at hr
 ·simp only[true_and];exact hr
 ·cases hr
theorem fbF_inv{lim:Nat}{args:List AV}{H H':Qaa}{a:AV}(h:fbF lim args H=some (a,H')):
  ∃r c u cs,args= [.oslice r 0 (Lib.nDigits u) c 1,.d (.int .u64 (u:Nat))]∧H[r]? =some (.cells cs)∧lim≤r∧u<18446744073709551616∧Lib.nDigits u≤24∧Lib.nDigits u≤cs.length∧cs.take (Lib.nDigits u)=List.replicate (Lib.nDigits u) (.d (.int .u8 0))∧a= .tuple []∧
   H'=H.set r (.cells (splice cs 0 ((Lib.decDigits u).map fun b=>AV.d (byteD b)))):=by
 unfold fbF at h
 split at h
 ·rename_i r n c u
  split at h
  ·rename_i cs h1
   split at h
   ·rename_i hc
    obtain⟨c1,c2,c3,c4,c24,c5,c6⟩:=hc
    simp only[Option.some.injEq,Prod.mk.injEq]at h
    obtain⟨rfl,rfl⟩:=h
    obtain⟨m,rfl⟩:∃m:Nat,u=(m:Int):=⟨u.toNat,by omega⟩
    simp only[Int.toNat_natCast]at c4
    subst c4
    exact⟨r,c,m,cs,rfl,h1,c1,by omega,c24,c5,AV.beqs_eq c6,rfl,rfl⟩
   ·cases h
  ·cases h
 ·cases h
abbrev encB(b:UInt8):Value:= .int .u8 (b.toNat:Int)
theorem fb_calls{g:Gh}{w:World}{H:Qaa}(hH:HeapOK g H w){r c u:Nat}{cs:List AV}(gr:H[r]? =some (.cells cs))(hu:u<18446744073709551616)(hn24:Lib.nDigits u≤24)(hn:Lib.nDigits u≤cs.length)
  (hz:cs.take (Lib.nDigits u)=List.replicate (Lib.nDigits u) (.d (.int .u8 0))){vals:Array Value}(hv0:2=vals.size)
  (hv:∀(i:Nat) x v,[AV.oslice r 0 (Lib.nDigits u) c 1,.d (.int .u64 (u:Nat))][i]? =some x→vals[i]? =some v→VR g w x v∧FOK g w (.slot i) x v):
  Calls Tryd.prog 94 vals w fun e w'=>∃v g',e= .returned v∧WF g w g' w'∧HeapOK g' (H.set r (.cells (splice cs 0 ((Lib.decDigits u).map fun b=>AV.d (byteD b))))) w'∧VR g' w' (.tuple []) v∧FOK g' w' .res (.tuple []) v:=by
 obtain⟨v0,v1,rfl⟩:∃v0 v1,vals= #[v0,v1]:=⟨vals[0],vals[1],by
  apply Array.ext
  ·simpa using hv0.symm
  ·intro i h1 h2
   simp at h2
   rcases(by omega:i=0∨i=1)with rfl|rfl<;>rfl⟩
 have hv1:=(hv 0 _ v0 rfl rfl).1
 have hv2:=(hv 1 _ v1 rfl rfl).1
 obtain⟨hrn,vs,e,fr,h1,⟨h2a,h2b⟩,h3,h4,h5⟩:=hH.get gr
 have har:=QcZ gr (by simp)
 generalize hN:Lib.nDigits u=N at*
 cases hv1 with
 |osl _ _ _ _ cap' _ q1 q2 q3 q4=>
 cases hv2 with
 |d _ _ hv2=>
 cases hv2 with
 |int=>
 let d:Array UInt8:=Array.replicate N 0
 have hds:d.size=N:=by simp[d]
 have hHd:Go.Sort.Holds encB w (g.rho r) 0 d:=fun j hj=>by
  rw[hds]at hj
  have hjs:j<vs.size:=by omega
  refine⟨?_, ?_⟩
  ·rw[Nat.zero_add,QaI h1,Array.getElem?_eq_getElem hjs]
   have hcj:cs[j]? =some (.d (.int .u8 0)):=by
    have:=congrArg (fun l=>l[j]?) hz
    simp only[List.getElem?_take,if_pos hj,List.getElem?_replicate]at this
    exact this
   have:=(h5 j _ vs[j] hcj (Array.getElem?_eq_getElem hjs)).1
   generalize vs[j]=vj at this
   cases this with
   |d _ _ h=>
    cases h
    rw[getElem!_pos d j (by omega)]
    simp[d,encB]
  ·rw[Nat.zero_add];exact QbK h1 h3 hjs
 have hS:=Any.internal_strconv_formatBase10 lays94 (g.rho r) 0 cap' u d w hHd (by rw[hds,←hN];exact Lib.lt_pow_nDigits u) hu (by omega)
 rw[hds]at hS
 refine Calls.mono hS ?_
 rintro _ _ ⟨rfl,q,v',dk,rfl,hfi⟩
 have hfs:dk.size=N:=hfi.size
 have hdk:dk=(Lib.decDigits u).toArray:=by
  apply Array.ext
  ·rw[hfs,List.size_toArray,Lib.decDigits_length,hN]
  ·intro i a b
   rw[←hN]at hfi
   have:=Lib.row_is_numeral hfi i (by simpa using b)
   rw[getElem!_pos dk i a]at this
   exact this.symm
 subst hdk
 rw[show(Go.Sort.putRow encB w (g.rho r) 0 (Lib.decDigits u).toArray).drewN q=(w.drewN q).setCells (g.rho r) 0 ((Lib.decDigits u).map encB)from Lib.putRow_eq_setCells encB w (g.rho r) 0 d (Lib.decDigits u) q hHd (by rw[hds,←hN,Lib.decDigits_length])]
 have f1:Frn g w (w.drewN q):=⟨rfl,rfl,rfl,Nat.le_refl _,fun _ _ _=>rfl⟩
 have hH1:=f1.heap hH
 have hw1:WF g w g (w.drewN q):=f1.wf hH (.refl _ _) fun _ _=>rfl
 obtain⟨ht,hor,_⟩:=QdH (P:=Tryd.prog) hH1 (r:=r) (us:=(Lib.decDigits u).map encB) (ds:=(Lib.decDigits u).map fun b=>AV.d (byteD b)) (off:=0) gr (by rw[List.length_map,Lib.decDigits_length];omega) (by simp) (fun c hc=>by
  obtain⟨i,_,rfl⟩:=List.mem_map.1 hc;rfl) (fun i c v hc hv=>by
  simp only[List.getElem?_map,Option.map_eq_some_iff]at hc hv
  obtain⟨a,ha,rfl⟩:=hc
  obtain⟨b,hb,rfl⟩:=hv
  rw[ha]at hb;cases hb
  exact⟨.d _ _ (.int _ _),FOK.triv (Triv.d _ _)⟩)
 have hH2:=QcS hH1 hrn har ht hor
 have hw2:=QbG hH1 hrn har ht
 exact⟨_,g,rfl,hw1.trans hw2,hH2,.tuple [] #[] rfl (fun i c v h=>by simp at h) (fun i c v h=>by simp at h),FOK.ne (by simp)⟩
theorem fb_sound:FSound Tryd.prog 94 fbF:=by
 intro lim args H a H' h hlim
 obtain⟨r,c,u,cs,rfl,gr,hl,hu,hn24,hn,hz,rfl,rfl⟩:=fbF_inv h
 exact⟨Ext.set _ hl,fun vals g w hH hn' hv0 hv=> .inl ⟨fn94,fb_calls hH gr hu hn24 hn hz hv0 hv⟩⟩
end Go.Proofs.YtmhmjlfajlpabaaDoor
namespace Go.Proofs.YtmhmjlfajlpabaaDoor
open Go Go.Abs Go.Lib
def ren2:Go.Shelf.Ren:=⟨fun f=>if f=196 then 67 else if f=259 then 78 else f,fun t=>if t=119 then 89 else if t=46 then 69 else if t=139 then 92 else if t=138 then 91 else if t=53 then 98 else t,fun g=>g-3⟩
theorem Qp2:Go.Proofs.Lays.n196 Tryd.prog ren2:=by
 constructor<;>first|kernel_rfl|exact fun w=>by kernel_rfl
theorem int_of{bd:Nat→Nat}{w:World}{k:IntKind}{n:Int}{v:Value}(h:DR bd w (.int k n) v):v= .int k n:=by cases h;rfl
theorem Qhj{g:Gh}{w:World}{cs:List D}{b:Nat}(h:VR g w (.pref cs) (.pointer (some ⟨b,0,none⟩))){i:Nat}{k:IntKind}{n:Int}(hi:cs[i]? =some (.int k n)):w.cell? ⟨b,i,none⟩=some (.int k n):=by
 cases h with
 |pref _ _ _ vs hf hc hd=>
  have h1:=(hc i (List.getElem?_eq_some_iff.1 hi).1).2
  rw[Nat.zero_add]at h1
  have:=int_of (hd i _ hi)
  rw[this]at h1
  exact h1
theorem Qgd{g:Gh}{H:Qaa}{w:World}(h:HeapOK g H w):Lib.Utf8Tabs 0 1 w:=by
 have g0:=h.glob 0 tab0 rfl
 have g1:=h.glob 1 tab1 rfl
 exact⟨fun k hk=>Qhj g0 (Qo7 hk),fun k hk=>⟨Qhj g1 (QjC k hk).1,Qhj g1 (QjC k hk).2⟩⟩
theorem QlG:FSound Tryd.prog 67 Qki:=by
 refine Go.Abs.text_sound Tryd.func67 (by kernel_rfl) (by kernel_rfl) (ok:=fun s=>s.length≤9223372036854775807) (out:=fun s=> .bool (Lib.validD s)) (res:=fun s=> .bool (Lib.validD s.data.toList)) (fun bd w s=> .bool _) fun g H w hH s hs=> ?_
 exact Any.utf8_ValidString Qp2 s w (by simpa using hs) (Qgd hH)
def ren3:Go.Shelf.Ren:=⟨fun f=>if f=197 then 35 else if f=260 then 55 else f,fun t=>if t=105 then 54 else if t=119 then 89 else if t=46 then 69 else if t=139 then 92 else if t=138 then 91 else t,fun g=>g-3⟩
theorem laysDec:Go.Proofs.Lays.n197 Tryd.prog ren3:=by
 constructor<;>first|kernel_rfl|exact fun w=>by kernel_rfl
theorem Qqz:FSound Tryd.prog 35 decF:=by
 have h:=QlK (P:=Tryd.prog) Tryd.func35 (by kernel_rfl) (by kernel_rfl) (ok:=fun _=>True) (out:=fun s=> .int .i32 ((dg s).1:Nat)) (out2:=fun s=> .int .i64 ((dg s).2:Nat)) (res:=fun s=> .int .i32 ((dg s.data.toList).1:Nat)) (res2:=fun s=> .int .i64 ((dg s.data.toList).2:Nat)) (fun bd w s=> .int _ _) (fun bd w s=> .int _ _) fun g H w hH s _=>by
  have e:dg s.data.toList=decodeGo s:=by
   obtain⟨⟨l⟩⟩:=s
   rfl
  rw[e]
  exact Any.utf8_DecodeRuneInString laysDec s w (Qgd hH)
 refine h.less fun lim a H r hr=> ?_
 unfold decF at hr
 split at hr
 ·simp only[if_true];exact hr
 ·cases hr
theorem Qqb:FSound Tryd.prog 70 Qc7:=QjX Tryd.func70 (by kernel_rfl) (by kernel_rfl) (by kernel_rfl) (by kernel_rfl)
theorem Qkz:∀f F,QaL f=some F→FSound Tryd.prog f F:=fun f F h=>by
 unfold QaL at h
 split at h
 ·rename_i hf;subst hf;cases h;exact QlG
 split at h
 ·rename_i hf;subst hf;cases h;exact Qqb
 split at h
 ·rename_i hf;subst hf;cases h;exact Qqz
 split at h
 ·rename_i hf;subst hf;cases h;exact QnW
 split at h
 ·rename_i hf;subst hf;cases h;exact QlQ
 split at h
 ·rename_i hf;subst hf;cases h;exact Qma
 split at h
 ·rename_i hf;subst hf;cases h;exact fb_sound
 ·cases h
theorem hS1:EnvS Tryd.prog pf X1 XP1:=EnvS.slim QeN Qkz (fun _ _ h=>by cases h) (fun _ _ h=>by cases h) QeT
theorem QkA:∀f F,Qbi f=some F→FSound Tryd.prog f F:=fun f F h=>by
 unfold Qbi at h
 split at h
 ·rename_i hf;subst hf;cases h;exact text_sound hS1
 ·exact Qkz f F h
theorem Qpt:∀f F,Qd4 f=some F→PSound Tryd.prog f F:=fun f F h=>by
 unfold Qd4 at h
 split at h
 ·rename_i hf;subst hf;cases h;exact QlI hS1
 ·cases h
theorem hS0:EnvS Tryd.prog pf X0 XP:=EnvS.slim QeN QkA Qpt QiN QeT
end Go.Proofs.YtmhmjlfajlpabaaDoor
namespace Go.Proofs.YtmhmjlfajlpabaaDoor
open Go Go.Abs
theorem Qic:∀ {xs:List D} {s:Tx},bytesOf xs=some s→xs.length=s.length
 | [],s,h=>by cases h;rfl
 |.int k n::xs,s,h=>by
  cases k with
  |u8=>
   simp only[bytesOf]at h
   split at h
   ·rename_i bs hb;cases h;simp[Qic hb]
   ·cases h
  |_=>cases h
 |.bool _::_,_,h=>by cases h
 |.str _::_,_,h=>by cases h
 |.nilptr::_,_,h=>by cases h
 |.slice _::_,_,h=>by cases h
 |.agg _::_,_,h=>by cases h
theorem Qik:∀ {cs:List AV} {s:Tx},AV.bytes cs=some s→cs.length=s.length
 | [],s,h=>by cases h;rfl
 |.d (.int k n)::xs,s,h=>by
  cases k with
  |u8=>
   simp only[AV.bytes]at h
   split at h
   ·rename_i bs hb;cases h;simp[Qik hb]
   ·cases h
  |_=>cases h
 |.d (.bool _)::_,_,h=>by cases h
 |.d (.str _)::_,_,h=>by cases h
 |.d .nilptr::_,_,h=>by cases h
 |.d (.slice _)::_,_,h=>by cases h
 |.d (.agg _)::_,_,h=>by cases h
 |.undef::_,_,h=>by cases h
 |.fslice _::_,_,h=>by cases h
 |.lit _::_,_,h=>by cases h
 |.ptr _ _::_,_,h=>by cases h
 |.pref _::_,_,h=>by cases h
 |.oslice _ _ _ _ _::_,_,h=>by cases h
 |.agg _::_,_,h=>by cases h
 |.tuple _::_,_,h=>by cases h
 |.mapr _::_,_,h=>by cases h
 |.nilmap::_,_,h=>by cases h
 |.func _ _::_,_,h=>by cases h
 |.nilfunc::_,_,h=>by cases h
 |.iface _ _::_,_,h=>by cases h
 |.niliface::_,_,h=>by cases h
 |.ubool::_,_,h=>by cases h
theorem Qgs{H:Qaa}{v:AV}{s:Tx}(h:Qid H v=some s):(∃xs,v= .d (.slice xs)∧bytesOf xs=some s∧xs.length=s.length)∨
  ∃r off cap cs,v= .oslice r off s.length cap 1∧H[r]? =some (.cells cs)∧off+s.length≤cs.length∧AV.bytes ((cs.drop off).take s.length)=some s:=by
 unfold Qid at h
 split at h
 ·rename_i xs;exact .inl ⟨xs,rfl,h,Qic h⟩
 ·rename_i r off len cap sz
  split at h
  ·rename_i hz
   subst hz
   split at h
   ·rename_i cs hr
    split at h
    ·rename_i hl
     have:=Qik h
     simp only[List.length_take,List.length_drop]at this
     obtain rfl:len=s.length:=by omega
     exact .inr ⟨r,off,cap,cs,rfl,hr,hl,h⟩
    ·cases h
   ·cases h
  ·cases h
 ·cases h
section
variable {lim:Nat} {H:Qaa} {s:Tx} (x:Nat→AV) {v0:AV}
theorem v10_0:V X0 XP lim q10_0 ⟨[v0,x 1,x 2,x 3,x 4,x 5,x 6,x 7,x 8,x 9,x 10,x 11,x 12,x 13,x 14,x 15,x 16,x 17,x 18,x 19,x 20,x 21,x 22,x 23,x 24,x 25,x 26,x 27,x 28,x 29,x 30,x 31,x 32,x 33,x 34,x 35,x 36,x 37,x 38,x 39,x 40,x 41,x 42,x 43,x 44,x 45,x 46,x 47,x 48],H⟩ (fun e st=>e= .normal∧∃x:Nat→AV,st=⟨[v0,x 1,.ptr H.length 0,.ptr (H.length+1) 0,.ptr (H.length+2) 0,x 5,x 6,x 7,x 8,x 9,x 10,x 11,x 12,x 13,x 14,x 15,x 16,x 17,x 18,x 19,x 20,x 21,x 22,x 23,x 24,x 25,x 26,x 27,x 28,x 29,x 30,x 31,x 32,x 33,x 34,x 35,x 36,x 37,x 38,x 39,x 40,x 41,x 42,x 43,x 44,x 45,x 46,x 47,x 48],H++ [zO,nO 0,nO 0]⟩) (fun _=>False):=by
 unfold q10_0
 have a1:(H++ [zO]).length=H.length+1:=by simp
 have a2:(H++ [zO]++ [nO 0]).length=H.length+2:=by simp
 have a3:H++ [zO]++ [nO 0]++ [nO 0]=H++ [zO,nO 0,nO 0]:=by simp
 refine v_r (j_ a1 (j_ a2 a3)) ?_
 exact⟨by first|exact trivial|exact rfl,Qao _ _ _ rfl⟩
theorem v10_1{K:Qaa}{n:Nat}(hb:Qid H v0=some s):V X0 XP lim q10_1 ⟨[v0,x 1,.ptr n 0,.ptr (n+1) 0,.ptr (n+2) 0,x 5,x 6,x 7,x 8,x 9,x 10,x 11,x 12,x 13,x 14,x 15,x 16,x 17,x 18,x 19,x 20,x 21,x 22,x 23,x 24,x 25,x 26,x 27,x 28,x 29,x 30,x 31,x 32,x 33,x 34,x 35,x 36,x 37,x 38,x 39,x 40,x 41,x 42,x 43,x 44,x 45,x 46,x 47,x 48],K⟩ (fun e st=>e= .normal∧∃x:Nat→AV,st=⟨[v0,x 1,.ptr n 0,.ptr (n+1) 0,.ptr (n+2) 0,x 5,x 6,x 7,x 8,boolD (decide (16384<s.length)),x 10,x 11,x 12,x 13,x 14,x 15,x 16,x 17,x 18,x 19,x 20,x 21,x 22,x 23,x 24,x 25,x 26,x 27,x 28,x 29,x 30,x 31,x 32,x 33,x 34,x 35,x 36,x 37,x 38,x 39,x 40,x 41,x 42,x 43,x 44,x 45,x 46,x 47,x 48],K⟩) (fun _=>False):=by
 unfold q10_1
 have e:decide ((s.length:Int)>16384)=decide (16384<s.length):=by rw[Bool.eq_iff_iff];simp;omega
 rcases Qgs hb with⟨xs,rfl,h1,h2⟩|⟨r,off,cap,cs,rfl,h1,h2,h3⟩
 ·refine v_r (j_ h2 e) ?_
  exact⟨by first|exact trivial|exact rfl,Qao _ _ _ rfl⟩
 ·refine v_r e ?_
  exact⟨by first|exact trivial|exact rfl,Qao _ _ _ rfl⟩
theorem v10_2(hl:lim≤H.length):V X0 XP lim q10_2 ⟨[x 0,x 1,.ptr H.length 0,.ptr (H.length+1) 0,.ptr (H.length+2) 0,x 5,x 6,x 7,x 8,x 9,x 10,x 11,x 12,x 13,x 14,x 15,x 16,x 17,x 18,x 19,x 20,x 21,x 22,x 23,x 24,x 25,x 26,x 27,x 28,x 29,x 30,x 31,x 32,x 33,x 34,x 35,x 36,x 37,x 38,x 39,x 40,x 41,x 42,x 43,x 44,x 45,x 46,x 47,x 48],H++ [zO,nO 0,nO 0]⟩ (fun e st=>e= .normal∧∃x:Nat→AV,st=⟨[x 0,x 1,.ptr H.length 0,.ptr (H.length+1) 0,.ptr (H.length+2) 0,x 5,x 6,x 7,x 8,x 9,x 10,x 11,x 12,x 13,x 14,x 15,x 16,x 17,x 18,x 19,x 20,x 21,x 22,x 23,x 24,x 25,x 26,x 27,x 28,x 29,x 30,x 31,x 32,x 33,x 34,x 35,x 36,x 37,x 38,x 39,x 40,x 41,x 42,x 43,x 44,x 45,x 46,x 47,x 48],H++ [zO,nO 13,nO 16384]⟩) (fun _=>False):=by
 unfold q10_2
 obtain⟨K,kk,g1,g2,g3,s1,s2,s3⟩:=three H
 have l1:lim≤H.length+1:=by omega
 have l2:lim≤H.length+2:=by omega
 rw[←kk,←kk]
 refine v_r (j_ g1 (j_ g2 (j_ g3 (j_ s1 (j_ s2 (j_ s3 (j_ hl (j_ l1 l2)))))))) ?_
 exact⟨by first|exact trivial|exact rfl,Qdu rfl rfl⟩
theorem v10_3(hb:Qid H v0=some s):V X0 XP lim q10_3 ⟨[v0,x 1,.ptr H.length 0,.ptr (H.length+1) 0,.ptr (H.length+2) 0,x 5,x 6,x 7,x 8,x 9,x 10,x 11,x 12,x 13,x 14,x 15,x 16,x 17,x 18,x 19,x 20,x 21,x 22,x 23,x 24,x 25,x 26,x 27,x 28,x 29,x 30,x 31,x 32,x 33,x 34,x 35,x 36,x 37,x 38,x 39,x 40,x 41,x 42,x 43,x 44,x 45,x 46,x 47,x 48],H++ [zO,nO 0,nO 0]⟩ (fun e st=>e= .normal∧∃x:Nat→AV,st=⟨[x 0,x 1,.ptr H.length 0,.ptr (H.length+1) 0,.ptr (H.length+2) 0,.ptr (H.length+3) 0,x 6,x 7,x 8,x 9,x 10,x 11,x 12,x 13,x 14,x 15,x 16,x 17,x 18,x 19,x 20,x 21,x 22,x 23,x 24,x 25,x 26,x 27,x 28,x 29,x 30,x 31,x 32,x 33,x 34,x 35,x 36,x 37,x 38,x 39,x 40,x 41,x 42,x 43,x 44,x 45,x 46,x 47,x 48],H++ [zO,nO 0,nO 0,rdO s (0:Nat)]⟩) (fun _=>False):=by
 unfold q10_3
 have a1:(H++ [zO,nO 0,nO 0]).length=H.length+3:=by simp
 have a2:∀o,H++ [zO,nO 0,nO 0]++ [o]=H++ [zO,nO 0,nO 0,o]:=fun o=>by simp
 rcases Qgs hb with⟨xs,rfl,h1,h2⟩|⟨r,off,cap,cs,rfl,h1,h2,h3⟩
 ·refine v_r (j_ h1 (j_ a1 a2)) ?_
  exact⟨by first|exact trivial|exact rfl,Qao _ _ _ rfl⟩
 ·have hr:(H++ [zO,nO 0,nO 0])[r]? =some (.cells cs):=by
   rw[List.getElem?_append_left (List.getElem?_eq_some_iff.1 h1).1];exact h1
  refine v_r (j_ h2 (j_ h3 (j_ hr (j_ a1 a2)))) ?_
  exact⟨by first|exact trivial|exact rfl,Qao _ _ _ rfl⟩
theorem v10_4(hs:s.length≤16384):V X0 XP lim q10_4 ⟨[x 0,x 1,.ptr H.length 0,.ptr (H.length+1) 0,.ptr (H.length+2) 0,.ptr (H.length+3) 0,x 6,x 7,x 8,x 9,x 10,x 11,x 12,x 13,x 14,x 15,x 16,x 17,x 18,x 19,x 20,x 21,x 22,x 23,x 24,x 25,x 26,x 27,x 28,x 29,x 30,x 31,x 32,x 33,x 34,x 35,x 36,x 37,x 38,x 39,x 40,x 41,x 42,x 43,x 44,x 45,x 46,x 47,x 48],H++ [zO,nO 0,nO 0,rdO s (0:Nat)]⟩ (fun e st=>e= .normal∧∃x:Nat→AV,st=⟨[x 0,x 1,.ptr H.length 0,.ptr (H.length+1) 0,.ptr (H.length+2) 0,.ptr (H.length+3) 0,intD (Qaw s),x 7,x 8,x 9,x 10,x 11,x 12,x 13,x 14,x 15,x 16,x 17,x 18,x 19,x 20,x 21,x 22,x 23,x 24,x 25,x 26,x 27,x 28,x 29,x 30,x 31,x 32,x 33,x 34,x 35,x 36,x 37,x 38,x 39,x 40,x 41,x 42,x 43,x 44,x 45,x 46,x 47,x 48],H++ [zO,nO 0,nO 0,rdO s (0:Nat)]⟩) (fun _=>False):=by
 unfold q10_4
 obtain⟨K,kk,g1,g2,g3,g4,s1,s2,s3,s4⟩:=Qqi H
 rw[←kk]
 have hb:=QqJ (pr:=Qbi) lim (K zO (nO 0) (nO 0) (rdO s (0:Nat))) s (by omega)
 (apply Qa6;focus(refine Evl.call (X:=X0) (hb) (Evl.all fun k e1=> ?_);simp(maxSteps:=100000000) only[zz,zd,simprocAttr,g4,e1];(first|done|with_reducible exact rfl)))<;>(try simp only[zp,simprocAttr])
 exact⟨by first|exact trivial|exact rfl,Qao _ _ _ rfl⟩
theorem v10_5{K:Qaa}{n:Nat}{b:Int}:V X0 XP lim q10_5 ⟨[x 0,x 1,.ptr n 0,.ptr (n+1) 0,.ptr (n+2) 0,.ptr (n+3) 0,intD b,x 7,x 8,x 9,x 10,x 11,x 12,x 13,x 14,x 15,x 16,x 17,x 18,x 19,x 20,x 21,x 22,x 23,x 24,x 25,x 26,x 27,x 28,x 29,x 30,x 31,x 32,x 33,x 34,x 35,x 36,x 37,x 38,x 39,x 40,x 41,x 42,x 43,x 44,x 45,x 46,x 47,x 48],K⟩ (fun e st=>e= .normal∧∃x:Nat→AV,st=⟨[x 0,x 1,.ptr n 0,.ptr (n+1) 0,.ptr (n+2) 0,.ptr (n+3) 0,intD b,x 7,x 8,x 9,x 10,x 11,x 12,x 13,x 14,x 15,x 16,x 17,x 18,x 19,x 20,boolD (decide (b≥0)),x 22,x 23,x 24,x 25,x 26,x 27,x 28,x 29,x 30,x 31,x 32,x 33,x 34,x 35,x 36,x 37,x 38,x 39,x 40,x 41,x 42,x 43,x 44,x 45,x 46,x 47,x 48],K⟩) (fun _=>False):=by
 unfold q10_5
 refine v_r trivial ?_
 exact⟨by first|exact trivial|exact rfl,Qao _ _ _ rfl⟩
theorem v10_6{b:Int}(hl:lim≤H.length):V X0 XP lim q10_6 ⟨[x 0,x 1,.ptr H.length 0,.ptr (H.length+1) 0,.ptr (H.length+2) 0,.ptr (H.length+3) 0,intD b,x 7,x 8,x 9,x 10,x 11,x 12,x 13,x 14,x 15,x 16,x 17,x 18,x 19,x 20,x 21,x 22,x 23,x 24,x 25,x 26,x 27,x 28,x 29,x 30,x 31,x 32,x 33,x 34,x 35,x 36,x 37,x 38,x 39,x 40,x 41,x 42,x 43,x 44,x 45,x 46,x 47,x 48],H++ [zO,nO 0,nO 0,rdO s (0:Nat)]⟩ (fun e st=>e= .normal∧∃x:Nat→AV,st=⟨[x 0,x 1,.ptr H.length 0,.ptr (H.length+1) 0,.ptr (H.length+2) 0,x 5,x 6,x 7,x 8,x 9,x 10,x 11,x 12,x 13,x 14,x 15,x 16,x 17,x 18,x 19,x 20,x 21,x 22,x 23,x 24,x 25,x 26,x 27,x 28,x 29,x 30,x 31,x 32,x 33,x 34,x 35,x 36,x 37,x 38,x 39,x 40,x 41,x 42,x 43,x 44,x 45,x 46,x 47,x 48],H++ [zO,nO 10,nO b,rdO s (0:Nat)]⟩) (fun _=>False):=by
 unfold q10_6
 obtain⟨K,kk,g1,g2,g3,g4,s1,s2,s3,s4⟩:=Qqi H
 have l1:lim≤H.length+1:=by omega
 have l2:lim≤H.length+2:=by omega
 rw[←kk,←kk]
 refine v_r (j_ g1 (j_ g2 (j_ g3 (j_ s1 (j_ s2 (j_ s3 (j_ hl (j_ l1 l2)))))))) ?_
 exact⟨by first|exact trivial|exact rfl,Qdu rfl rfl⟩
theorem v10_8(hl:lim≤H.length+3)(hs:s.length≤16384):V X0 XP lim q10_8 ⟨[x 0,x 1,.ptr H.length 0,.ptr (H.length+1) 0,.ptr (H.length+2) 0,.ptr (H.length+3) 0,x 6,x 7,x 8,x 9,x 10,x 11,x 12,x 13,x 14,x 15,x 16,x 17,x 18,x 19,x 20,x 21,x 22,x 23,x 24,x 25,x 26,x 27,x 28,x 29,x 30,x 31,x 32,x 33,x 34,x 35,x 36,x 37,x 38,x 39,x 40,x 41,x 42,x 43,x 44,x 45,x 46,x 47,x 48],H++ [zO,nO 0,nO 0,rdO s (0:Nat)]⟩ (fun e st=>e= .normal∧∃x:Nat→AV,st=⟨[x 0,x 1,.ptr H.length 0,.ptr (H.length+1) 0,.ptr (H.length+2) 0,.ptr (H.length+3) 0,x 6,x 7,x 8,x 9,x 10,x 11,x 12,x 13,x 14,x 15,x 16,x 17,x 18,x 19,x 20,x 21,x 22,x 23,x 24,x 25,x 26,x 27,x 28,x 29,x 30,x 31,x 32,x 33,x 34,x 35,x 36,x 37,x 38,x 39,x 40,x 41,x 42,x 43,x 44,x 45,x 46,x 47,x 48],H++ [zO,nO 0,nO 0,rdO s (Qac s 0)]⟩) (fun _=>False):=by
 unfold q10_8
 obtain⟨K,kk,g1,g2,g3,g4,s1,s2,s3,s4⟩:=Qqi H
 rw[←kk,←kk]
 have hb:=QdB (pr:=Qbi) lim (K zO (nO 0) (nO 0) (rdO s (0:Nat))) (H.length+3) s 0 (g4 _ _ _ _) hl (Nat.zero_le _) hs
 rw[s4]at hb
 (apply Qa6;focus(refine Evl.call (X:=X0) (hb) (Evl.all fun k e1=> ?_);simp(maxSteps:=100000000) only[zz,zd,simprocAttr,e1];(first|done|with_reducible exact rfl)))<;>(try simp only[zp,simprocAttr])
 exact⟨by first|exact trivial|exact rfl,Qao _ _ _ rfl⟩
theorem v10_9{j:J}{p q:Nat}(hl:lim≤H.length)(hs:s.length≤16384)(hp:p≤s.length)(hv:QaB s (2*s.length+3) 1 p= .ok (j,q)):V X0 XP lim q10_9 ⟨[x 0,x 1,.ptr H.length 0,.ptr (H.length+1) 0,.ptr (H.length+2) 0,.ptr (H.length+3) 0,x 6,x 7,x 8,x 9,x 10,x 11,x 12,x 13,x 14,x 15,x 16,x 17,x 18,x 19,x 20,x 21,x 22,x 23,x 24,x 25,x 26,x 27,x 28,x 29,x 30,x 31,x 32,x 33,x 34,x 35,x 36,x 37,x 38,x 39,x 40,x 41,x 42,x 43,x 44,x 45,x 46,x 47,x 48],H++ [zO,nO 0,nO 0,rdO s p]⟩ (fun e st=>e= .normal∧∃x:Nat→AV,st=⟨[x 0,x 1,.ptr H.length 0,.ptr (H.length+1) 0,.ptr (H.length+2) 0,.ptr (H.length+3) 0,x 6,x 7,x 8,x 9,x 10,x 11,x 12,x 13,x 14,x 15,x 16,x 17,x 18,x 19,x 20,x 21,x 22,x 23,x 24,x 25,x 26,x 27,x 28,x 29,x 30,x 31,x 32,x 33,x 34,x 35,x 36,x 37,x 38,x 39,x 40,x 41,x 42,x 43,x 44,x 45,x 46,x 47,x 48],H++ [jO j,nO 0,nO 0,rdO s q]⟩) (fun _=>False):=by
 unfold q10_9
 obtain⟨K,kk,g1,g2,g3,g4,s1,s2,s3,s4⟩:=Qqi H
 rw[←kk,←kk]
 have he:=(Qkh (2*s.length+3)) lim (K zO (nO 0) (nO 0) (rdO s p)) (H.length+3) s p 1 (g4 _ _ _ _) (by omega) hs hp (by omega) (by omega)
 have ev:Ev X0 25 lim [.ptr (H.length+3) 0,intD 1] (K zO (nO 0) (nO 0) (rdO s p)) _ _:=he.okJ hv
 rw[s4,jd]at ev
 (apply Qa6;focus(refine Evl.call (X:=X0) (ev) (Evl.all fun k e1=> ?_);simp(maxSteps:=100000000) only[zz,zd,simprocAttr,g1,s1,hl,e1];(first|done|with_reducible exact rfl)))<;>(try simp only[zp,simprocAttr])
 exact⟨by first|exact trivial|exact rfl,Qao _ _ _ rfl⟩
theorem v10_10{a b c:AObj}{p:Nat}(hl:lim≤H.length+3)(hs:s.length≤16384)(hp:p≤s.length):V X0 XP lim Qpr ⟨[x 0,x 1,.ptr H.length 0,.ptr (H.length+1) 0,.ptr (H.length+2) 0,.ptr (H.length+3) 0,x 6,x 7,x 8,x 9,x 10,x 11,x 12,x 13,x 14,x 15,x 16,x 17,x 18,x 19,x 20,x 21,x 22,x 23,x 24,x 25,x 26,x 27,x 28,x 29,x 30,x 31,x 32,x 33,x 34,x 35,x 36,x 37,x 38,x 39,x 40,x 41,x 42,x 43,x 44,x 45,x 46,x 47,x 48],H++ [a,b,c,rdO s p]⟩ (fun e st=>e= .normal∧∃x:Nat→AV,st=⟨[x 0,x 1,.ptr H.length 0,.ptr (H.length+1) 0,.ptr (H.length+2) 0,.ptr (H.length+3) 0,x 6,x 7,x 8,x 9,x 10,x 11,x 12,x 13,x 14,x 15,x 16,x 17,x 18,x 19,x 20,x 21,x 22,x 23,x 24,x 25,x 26,x 27,x 28,x 29,x 30,x 31,x 32,x 33,x 34,x 35,x 36,x 37,x 38,x 39,x 40,x 41,x 42,x 43,x 44,x 45,x 46,x 47,x 48],H++ [a,b,c,rdO s (Qac s p)]⟩) (fun _=>False):=by
 unfold Qpr
 obtain⟨K,kk,g1,g2,g3,g4,s1,s2,s3,s4⟩:=Qqi H
 rw[←kk,←kk]
 have hb:=QdB (pr:=Qbi) lim (K a b c (rdO s p)) (H.length+3) s p (g4 _ _ _ _) hl hp hs
 rw[s4]at hb
 (apply Qa6;focus(refine Evl.call (X:=X0) (hb) (Evl.all fun k e1=> ?_);simp(maxSteps:=100000000) only[zz,zd,simprocAttr,e1];(first|done|with_reducible exact rfl)))<;>(try simp only[zp,simprocAttr])
 exact⟨by first|exact trivial|exact rfl,Qao _ _ _ rfl⟩
theorem v10_11{a b c:AObj}{p:Nat}:V X0 XP lim Qpq ⟨[x 0,x 1,.ptr H.length 0,.ptr (H.length+1) 0,.ptr (H.length+2) 0,.ptr (H.length+3) 0,x 6,x 7,x 8,x 9,x 10,x 11,x 12,x 13,x 14,x 15,x 16,x 17,x 18,x 19,x 20,x 21,x 22,x 23,x 24,x 25,x 26,x 27,x 28,x 29,x 30,x 31,x 32,x 33,x 34,x 35,x 36,x 37,x 38,x 39,x 40,x 41,x 42,x 43,x 44,x 45,x 46,x 47,x 48],H++ [a,b,c,rdO s p]⟩ (fun e st=>e= .normal∧∃x:Nat→AV,st=⟨[x 0,x 1,.ptr H.length 0,.ptr (H.length+1) 0,.ptr (H.length+2) 0,.ptr (H.length+3) 0,x 6,x 7,x 8,x 9,x 10,x 11,x 12,x 13,x 14,x 15,x 16,x 17,x 18,x 19,x 20,x 21,x 22,x 23,x 24,x 25,x 26,x 27,x 28,x 29,x 30,x 31,x 32,x 33,x 34,x 35,x 36,x 37,x 38,x 39,boolD (decide (p<s.length)),x 41,x 42,x 43,x 44,x 45,x 46,x 47,x 48],H++ [a,b,c,rdO s p]⟩) (fun _=>False):=by
 unfold Qpq
 obtain⟨K,kk,g1,g2,g3,g4,s1,s2,s3,s4⟩:=Qqi H
 have e:decide ((p:Int)<(s.length:Int))=decide (p<s.length):=by rw[Bool.eq_iff_iff];simp
 rw[←kk]
 refine v_r (j_ g4 e) ?_
 exact⟨by first|exact trivial|exact rfl,Qao _ _ _ rfl⟩
theorem v10_13{j:J}{n:Nat}{o:AObj}(hl:lim≤H.length)(hj:OrdOK n j)(hjw:wt j≤100000000000):V X0 XP lim Qpp ⟨[x 0,x 1,.ptr H.length 0,.ptr (H.length+1) 0,.ptr (H.length+2) 0,.ptr (H.length+3) 0,x 6,x 7,x 8,x 9,x 10,x 11,x 12,x 13,x 14,x 15,x 16,x 17,x 18,x 19,x 20,x 21,x 22,x 23,x 24,x 25,x 26,x 27,x 28,x 29,x 30,x 31,x 32,x 33,x 34,x 35,x 36,x 37,x 38,x 39,x 40,x 41,x 42,x 43,x 44,x 45,x 46,x 47,x 48],H++ [jO j,nO 0,nO 0,o]⟩ (fun e st=>e= .normal∧∃x:Nat→AV,st=⟨[x 0,x 1,.ptr H.length 0,.ptr (H.length+1) 0,.ptr (H.length+2) 0,x 5,x 6,x 7,x 8,x 9,x 10,x 11,x 12,x 13,x 14,x 15,x 16,x 17,x 18,x 19,x 20,x 21,x 22,x 23,x 24,x 25,x 26,x 27,x 28,x 29,x 30,x 31,x 32,x 33,x 34,x 35,x 36,x 37,x 38,x 39,x 40,x 41,x 42,x 43,x 44,x 45,x 46,x 47,x 48],H++ [jO (Qaf j),nO 0,nO 0,o]⟩) (fun _=>False):=by
 unfold Qpp
 obtain⟨K,kk,g1,g2,g3,g4,s1,s2,s3,s4⟩:=Qqi H
 have l1:lim≤H.length+1:=by omega
 have l2:lim≤H.length+2:=by omega
 rw[←kk,←kk]
 have he:=QfN (pr:=Qbi) n lim (K (jO j) (nO 0) (nO 0) o) j hj hjw
 rw[jd,jd]at he
 (apply Qa6;focus(refine Evl.call (X:=X0) (he) (Evl.all fun k e1=> ?_);simp(maxSteps:=100000000) only[zz,zd,simprocAttr,g1,g2,g3,s1,s2,s3,hl,l1,l2,e1];(first|done|with_reducible exact rfl)))<;>(try simp only[zp,simprocAttr])
 exact⟨by first|exact trivial|exact rfl,Qao _ _ _ rfl⟩
theorem v23_3n{n:Nat}:V X0 XP lim Qpo ⟨[.ptr n 0,.ptr (n+1) 0,.ptr (n+2) 0,x 3,x 4,x 5,.niliface,x 7,x 8,x 9,x 10,x 11,x 12,x 13,x 14,x 15,x 16],H⟩ (fun e st=>e= .normal∧∃x:Nat→AV,st=⟨[x 0,x 1,x 2,x 3,x 4,x 5,x 6,x 7,boolD true,x 9,x 10,x 11,x 12,x 13,x 14,x 15,x 16],H⟩) (fun _=>False):=by
 unfold Qpo
 refine Qjr (fun k=>rfl) ?_
 exact⟨by first|exact trivial|exact rfl,Qao _ _ _ rfl⟩
theorem v23_3p{n:Nat}{t:TypeId}{d:AV}:V X0 XP lim Qpo ⟨[.ptr n 0,.ptr (n+1) 0,.ptr (n+2) 0,x 3,x 4,x 5,.iface t d,x 7,x 8,x 9,x 10,x 11,x 12,x 13,x 14,x 15,x 16],H⟩ (fun e st=>e= .normal∧∃x:Nat→AV,st=⟨[.ptr n 0,.ptr (n+1) 0,.ptr (n+2) 0,x 3,x 4,x 5,.iface t d,x 7,boolD false,x 9,x 10,x 11,x 12,x 13,x 14,x 15,x 16],H⟩) (fun _=>False):=by
 unfold Qpo
 refine Qjr (fun k=>rfl) ?_
 exact⟨by first|exact trivial|exact rfl,Qao _ _ _ rfl⟩
theorem v23_4:V X0 XP lim q23_4 ⟨[x 0,x 1,x 2,x 3,x 4,x 5,x 6,x 7,x 8,x 9,x 10,x 11,x 12,x 13,x 14,x 15,x 16],H⟩ (fun e st=>e= .normal∧∃x:Nat→AV,st=⟨[x 0,x 1,x 2,x 3,x 4,x 5,x 6,x 7,x 8,x 9,x 10,x 11,x 12,x 13,x 14,x 15,x 16],H⟩) (fun _=>False):=by
 unfold q23_4
 refine v_r trivial ?_
 exact⟨by first|exact trivial|exact rfl,Qao _ _ _ rfl⟩
theorem v23_6{n:Nat}{e p:Int}(hl:lim≤H.length):V X0 XP lim q23_6 ⟨[.ptr n 0,.ptr (n+1) 0,.ptr (n+2) 0,x 3,x 4,x 5,x 6,x 7,x 8,x 9,x 10,.d (.agg [.int .i64 e,.int .i64 p]),x 12,x 13,x 14,x 15,x 16],H⟩ (fun z st=>z= .normal∧∃x:Nat→AV,st=⟨[.ptr n 0,.ptr (n+1) 0,.ptr (n+2) 0,x 3,.ptr H.length 0,x 5,x 6,x 7,x 8,x 9,x 10,x 11,x 12,x 13,x 14,x 15,x 16],H++ [.cells [intD e,intD p]]⟩) (fun _=>False):=by
 unfold q23_6
 have s1:∀o o',(H++ [o]).set H.length o'=H++ [o']:=fun o o'=>by rw[List.set_append_right _ _ (by omega)];simp
 refine v_r (j_ s1 hl) ?_
 exact⟨by first|exact trivial|exact rfl,Qao _ _ _ rfl⟩
theorem v23_7{n L:Nat}{e p a b:Int}{c1 c2 c3 c4 c5:AV}(h1:H[n]? =some (.cells [c1,c2,c3,c4,c5]))(h2:H[n+1]? =some (nO a))(h3:H[n+2]? =some (nO b))(h4:H[L]? =some (.cells [intD e,intD p]))(hL:n+3≤L)(hl:lim≤n):
  V X0 XP lim q23_7 ⟨[.ptr n 0,.ptr (n+1) 0,.ptr (n+2) 0,x 3,.ptr L 0,x 5,x 6,x 7,x 8,x 9,x 10,x 11,x 12,x 13,x 14,x 15,x 16],H⟩ (fun z st=>z= .normal∧∃x:Nat→AV,st=⟨[x 0,x 1,x 2,x 3,x 4,x 5,x 6,x 7,x 8,x 9,x 10,x 11,x 12,x 13,x 14,x 15,x 16],((H.set n zO).set (n+1) (nO e)).set (n+2) (nO p)⟩) (fun _=>False):=by
 unfold q23_7
 have l1:lim≤n+1:=by omega
 have l2:lim≤n+2:=by omega
 have g1:∀o,(H.set n o)[n+1]? =some (nO a):=fun o=>by rw[List.getElem?_set_ne (by omega)];exact h2
 have g2:∀o o',((H.set n o).set (n+1) o')[n+2]? =some (nO b):=fun o o'=>by rw[List.getElem?_set_ne (by omega),List.getElem?_set_ne (by omega)];exact h3
 have g3:∀o,(H.set n o)[L]? =some (.cells [intD e,intD p]):=fun o=>by rw[List.getElem?_set_ne (by omega)];exact h4
 have g4:∀o o',((H.set n o).set (n+1) o')[L]? =some (.cells [intD e,intD p]):=fun o o'=>by rw[List.getElem?_set_ne (by omega),List.getElem?_set_ne (by omega)];exact h4
 (apply Qjr;focus(intro k;simp(maxSteps:=100000000) only[zz,zd,simprocAttr,h1,h2,h3,h4,g1,g2,g3,g4,hl,l1,l2];(first|done|with_reducible exact rfl)))<;>(try simp only[zp,simprocAttr])
 exact⟨by first|exact trivial|exact rfl,Qao _ _ _ rfl⟩
end
end Go.Proofs.YtmhmjlfajlpabaaDoor
