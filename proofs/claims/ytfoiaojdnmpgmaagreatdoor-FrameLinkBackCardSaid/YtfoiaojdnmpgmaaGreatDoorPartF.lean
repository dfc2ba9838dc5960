/- Part 6. -/
import Derived.Test.YtfoiaojdnmpgmaaGreatDoorPartE
import Derived.KernelRfl
import Derived.Test.YtfoiaojdnmpgmaaGreatDoorRows
import Derived.Lib.LaidU8T
import Derived.Lib.LaidTab
import Derived.Lib.ItoaNum
import Derived.Test.YtfoiaojdnmpgmaaGreatDoorProg
import Derived.Lib.FrozenHead2
import Derived.Test.YtfoiaojdnmpgmaaGreatDoorChecked
import Derived.Shelf.Strings.Builder1
import Derived.Shelf.RegionOpenPlain
import Derived.Lib.Hide
import Derived.Shelf.SlSortCmp.NoneTotal
import Derived.WalkKit
import Derived.Deep.QuietTactic
import Derived.BigQuiet
import Derived.Lib.Walk
import Derived.Lib.Strings
import Derived.Lib.Slices
import Derived.Lib.SortBridge
set_option linter.all false
set_option maxRecDepth 100000
namespace Go.Proofs.YtfoiaojdnmpgmaaGreatDoor
open Go Go.Abs Go.Lib
abbrev rF(b:Tx):AV:= .fslice (b.map Qai)
theorem be_at(n:Int):∀(k j:Nat),j<k→(be n k)[j]? =some (nb (n.fdiv (2^(8*(k-1-j)))))
 |0,j,h=>absurd h (by omega)
 |k+1,0,h=>by simp[be]
 |k+1,j+1,h=>by
  rw[be,List.getElem?_cons_succ,be_at n k j (by omega)]
  congr 5;omega
theorem Qnu(n:Int){k j:Nat}(h:j<k):(be n k).take (j+1)=(be n k).take j++ [nb (n.fdiv (2^(8*(k-1-j))))]:=by
 rw[List.take_add_one,be_at n k j h];rfl
theorem shr_at(n:Int){z:Int}{m:Nat}(h:z=m)(hm:m≤7):QbH .shr .i64 n (8*z)=some (.int .i64 (n.fdiv (2^(8*m)))):=by
 subst h
 unfold QbH
 rw[if_neg (by omega)]
 have e:min (8*(m:Int)).toNat IntKind.i64.bits=8*m:=by
  show min (8*(m:Int)).toNat 64=8*m
  omega
 simp only[e]
theorem put_ev(lim:Nat)(H:Qab)(b:Tx)(n:Int)(hb:b.length≤10000000000):Ev (QaE code Qa3) 91 lim [rF b,intD 8,.d (.int .i64 n)] H (rF (b++be n 8)) H:=by
 refine Fn.ev ?_
 refine QbU (pn rfl) rfl (show code 91=some c91 from rfl) rfl ?_;simp only[List.length_cons,List.length_nil,List.cons_append,List.nil_append,simprocAttr]
 have w0:IntKind.i64.wrap 7=7:=by decide
 refine w_r w0 ?_
 refine W_lp (fun k st=>∃(j:Nat) (T:List D) (z:Int),j≤8∧k=8-j∧T=(b++(be n 8).take j).map Qai∧z=7-(j:Int)∧∃x:Nat→AV,st=⟨[.fslice T,intD 8,.d (.int .i64 n),x 3,x 4,intD z,x 6,x 7],H⟩) ?_ _ _ ⟨0,_,_,Nat.zero_le _,rfl,by simp,by simp,QaC _ _ _ rfl⟩
 rintro k _ ⟨j,T,z,hj,rfl,hT,hz,x,rfl⟩
 have hTl:T.length=b.length+j:=by rw[hT];simp[Qdm];omega
 have hTz:QaS 1 T=true:=by rw[hT];exact Qaz _
 by_cases t0:j<8
 ·have f1:(z≥0)=True:=eq_true (by omega)
  have w1:IntKind.i64.wrap (8*z)=8*z:=w64 (by omega) (by omega)
  have w2:IntKind.i64.wrap (z-1)=z-1:=w64 (by omega) (by omega)
  have s1:=shr_at n (z:=z) (m:=7-j) (by omega) (by omega)
  obtain⟨q,hq⟩:∃q,IntKind.u8.wrap (n.fdiv (2^(8*(7-j))))=q:=⟨_,rfl⟩
  have hqb:D.int .u8 q=Qai (nb (n.fdiv (2^(8*(7-j))))):=by rw[Qks,hq]
  have m1:(T.length+1)*2≤70368744177664:=by omega
  refine w_r (j_ f1 (j_ w1 (j_ w2 (j_ s1 (j_ hq (j_ hTz m1)))))) ?_
  refine⟨8-(j+1),by omega,j+1,_,_,by omega,rfl, ?_, ?_,QaC _ _ _ rfl⟩
  ·rw[Qnu n t0,hT,hqb];simp
  ·omega
 ·have f1:(z≥0)=False:=eq_false (by omega)
  obtain rfl:j=8:=by omega
  rw[List.take_of_length_le (by rw[Qdm];omega)]at hT
  refine w_r f1 ?_
  refine Qah (vs:= [.fslice T]) rfl rfl ⟨by rw[hT],rfl⟩
theorem numb_ev(lim:Nat)(H:Qab)(n:Int):Ev (QaE code Qa3) 76 lim [.d (.int .i64 n),intD 8] H (rF (be n 8)) H:=by
 refine Fn.ev ?_
 refine QbU (pn rfl) rfl (show code 76=some c76 from rfl) rfl ?_;simp only[List.length_cons,List.length_nil,List.cons_append,List.nil_append,simprocAttr]
 have w0:IntKind.i64.wrap 7=7:=by decide
 refine w_r w0 ?_
 refine W_lp (fun k st=>∃(j:Nat) (T:List D) (z:Int),j≤8∧k=8-j∧T=((be n 8).take j).map Qai∧z=7-(j:Int)∧∃x:Nat→AV,st=⟨[.d (.int .i64 n),intD 8,x 2,x 3,.fslice T,intD z,x 6,x 7],H⟩) ?_ _ _ ⟨0,_,_,Nat.zero_le _,rfl,by simp,by simp,QaC _ _ _ rfl⟩
 rintro k _ ⟨j,T,z,hj,rfl,hT,hz,x,rfl⟩
 have hTl:T.length=j:=by rw[hT];simp[Qdm];omega
 have hTz:QaS 1 T=true:=by rw[hT];exact Qaz _
 by_cases t0:j<8
 ·have f1:(z≥0)=True:=eq_true (by omega)
  have w1:IntKind.i64.wrap (8*z)=8*z:=w64 (by omega) (by omega)
  have w2:IntKind.i64.wrap (z-1)=z-1:=w64 (by omega) (by omega)
  have s1:=shr_at n (z:=z) (m:=7-j) (by omega) (by omega)
  obtain⟨q,hq⟩:∃q,IntKind.u8.wrap (n.fdiv (2^(8*(7-j))))=q:=⟨_,rfl⟩
  have hqb:D.int .u8 q=Qai (nb (n.fdiv (2^(8*(7-j))))):=by rw[Qks,hq]
  have m1:(T.length+1)*2≤70368744177664:=by omega
  refine w_r (j_ f1 (j_ w1 (j_ w2 (j_ s1 (j_ hq (j_ hTz m1)))))) ?_
  refine⟨8-(j+1),by omega,j+1,_,_,by omega,rfl, ?_, ?_,QaC _ _ _ rfl⟩
  ·rw[Qnu n t0,hT,hqb];simp
  ·omega
 ·have f1:(z≥0)=False:=eq_false (by omega)
  obtain rfl:j=8:=by omega
  rw[List.take_of_length_le (by rw[Qdm];omega)]at hT
  refine w_r f1 ?_
  refine Qah (vs:= [.fslice T]) rfl rfl ⟨by rw[hT],rfl⟩
theorem shl_at(a:Int):QbH .shl .i64 a 8=some (.int .i64 (IntKind.i64.wrap (a*2^8))):=rfl
theorem or_at(a:Int)(c:UInt8):QbW .or .i64 (IntKind.i64.wrap (a*2^8)) (c.toNat:Int)=some (.int .i64 (sor a c)):=rfl
theorem QhV(c:UInt8):IntKind.i64.wrap (c.toNat:Int)=(c.toNat:Int):=by
 have:=c.toNat_lt
 exact w64 (by omega) (by omega)
theorem Ql7{l:Tx}{i:Nat}{c:UInt8}(h:l[i]? =some c):rdL (l.take (i+1))=sor (rdL (l.take i)) c:=by
 unfold rdL
 rw[List.take_add_one,h]
 simp
theorem QlX(lim:Nat)(H:Qab)(l:Tx)(hl:l.length≤10000000000):Ev (QaE code Qa3) 92 lim [.d (.slice (l.map Qai))] H (.d (.int .i64 (rdL l))) H:=by
 refine Fn.ev ?_
 refine QbU (pn rfl) rfl (show code 92=some c92 from rfl) rfl ?_;simp only[List.length_cons,List.length_nil,List.cons_append,List.nil_append,simprocAttr]
 refine w_r (@List.length_map.{0,0}) ?_
 refine W_lp (fun k st=>∃(i:Nat) (a:Int),i≤l.length∧k=l.length-i∧a=rdL (l.take i)∧∃x:Nat→AV,st=⟨[x 0,x 1,x 2,intD a,.d (.slice (l.map Qai)),intD l.length,intD i,x 7,x 8,x 9],H⟩) ?_ _ _ ⟨0,0,Nat.zero_le _,rfl,rfl,QaC _ _ _ rfl⟩
 rintro k _ ⟨i,a,hi,rfl,ha,x,rfl⟩
 by_cases t0:i<l.length
 ·obtain⟨c,hc⟩:∃c,l[i]? =some c:=⟨_,List.getElem?_eq_getElem t0⟩
  have f1:((i:Int)<(l.length:Int))=True:=eq_true (by omega)
  have f2:((0:Int)≤(i:Int))=True:=eq_true (by omega)
  have f3:((i:Int)).toNat=i:=by omega
  have g1:(l.map Qai)[i]? =some (D.int .u8 (c.toNat:Int)):=by rw[List.getElem?_map,hc];rfl
  have w1:IntKind.i64.wrap ((i:Int)+1)=((i+1:Nat):Int):=QkS (by omega)
  have s1:=shl_at a
  have o1:=or_at a c
  have b1:=QhV c
  obtain⟨y,hy⟩:∃y,IntKind.i64.wrap (a*2^8)=y:=⟨_,rfl⟩
  rw[hy]at s1 o1
  refine w_r (j_ f1 (j_ f2 (j_ f3 (j_ g1 (j_ w1 (j_ s1 (j_ b1 o1))))))) ?_
  exact⟨l.length-(i+1),by omega,i+1,_,by omega,rfl,by rw[Ql7 hc,←ha],QaC _ _ _ rfl⟩
 ·have f1:((i:Int)<(l.length:Int))=False:=eq_false (by omega)
  obtain rfl:i=l.length:=by omega
  rw[List.take_length]at ha
  refine w_r f1 ?_
  exact Qah (vs:= [.d (.int .i64 a)]) rfl rfl ⟨by rw[ha],rfl⟩
theorem read_ev(lim:Nat)(H:Qab)(l:Tx)(hl:l.length≤10000000000):Ev (QaE code Qa3) 46 lim [.d (.slice (l.map Qai))] H (.d (.int .i64 (rdL l))) H:=by
 refine Fn.ev ?_
 refine QbU (pn rfl) rfl (show code 46=some c46 from rfl) rfl ?_;simp only[List.length_cons,List.length_nil,List.cons_append,List.nil_append,simprocAttr]
 refine w_r (@List.length_map.{0,0}) ?_
 refine W_lp (fun k st=>∃(i:Nat) (a:Int),i≤l.length∧k=l.length-i∧a=rdL (l.take i)∧∃x:Nat→AV,st=⟨[.d (.slice (l.map Qai)),x 1,x 2,intD a,intD i,x 5,x 6],H⟩) ?_ _ _ ⟨0,0,Nat.zero_le _,rfl,rfl,QaC _ _ _ rfl⟩
 rintro k _ ⟨i,a,hi,rfl,ha,x,rfl⟩
 by_cases t0:i<l.length
 ·obtain⟨c,hc⟩:∃c,l[i]? =some c:=⟨_,List.getElem?_eq_getElem t0⟩
  have f1:((i:Int)<(l.length:Int))=True:=eq_true (by omega)
  have f2:((0:Int)≤(i:Int))=True:=eq_true (by omega)
  have f3:((i:Int)).toNat=i:=by omega
  have g1:(l.map Qai)[i]? =some (D.int .u8 (c.toNat:Int)):=by rw[List.getElem?_map,hc];rfl
  have w1:IntKind.i64.wrap ((i:Int)+1)=((i+1:Nat):Int):=QkS (by omega)
  have s1:=shl_at a
  have o1:=or_at a c
  have b1:=QhV c
  obtain⟨y,hy⟩:∃y,IntKind.i64.wrap (a*2^8)=y:=⟨_,rfl⟩
  rw[hy]at s1 o1
  refine w_r (j_ f1 (j_ f2 (j_ f3 (j_ g1 (j_ w1 (j_ s1 (j_ b1 (j_ o1 (@List.length_map.{0,0}))))))))) ?_
  exact⟨l.length-(i+1),by omega,i+1,_,by omega,rfl,by rw[Ql7 hc,←ha],QaC _ _ _ rfl⟩
 ·have f1:((i:Int)<(l.length:Int))=False:=eq_false (by omega)
  obtain rfl:i=l.length:=by omega
  rw[List.take_length]at ha
  refine w_r (j_ f1 (@List.length_map.{0,0})) ?_
  exact Qah (vs:= [.d (.int .i64 a)]) rfl rfl ⟨by rw[ha],rfl⟩
abbrev lkD(a:Bool)(n:Int)(d:Tx):AV:= .d (.agg [.bool a,.int .i64 n,.slice (d.map Qai)])
abbrev lkO(a:Bool)(n:Int)(d:Tx):AObj:= .cells [boolD a,.d (.int .i64 n),.d (.slice (d.map Qai))]
theorem QkO(lim:Nat)(H:Qab)(l:Tx)(hl:l.length≤10000000000):Ev (QaE code Qa3) 93 lim [.d (.slice (l.map Qai))] H (rF l) H:=by
 refine Fn.ev ?_
 refine QbU (pn rfl) rfl (show code 93=some c93 from rfl) rfl ?_;simp only[List.length_cons,List.length_nil,List.cons_append,List.nil_append,simprocAttr]
 cases l with
 |nil=>
  (repeat((first|refine QlL ?_|refine W_bk ?_|refine QlG ?_|refine Qhf ?_|refine Qhe ?_|(apply W_rg;focus(intro _;simp only[zz,simprocAttr,List.map_nil];(first|done|with_reducible exact rfl)))|(refine W_cT ?_ ?_;focus(simp only[zp,simprocAttr];done))|(refine W_cF ?_ ?_;focus(simp only[zp,simprocAttr];done)))<;>(try simp only[zp,simprocAttr])))
  apply W_fork
  ·rfl
  ·refine w_r trivial ?_
   exact⟨rfl,rfl⟩
  ·(repeat((first|refine QlL ?_|refine W_bk ?_|refine QlG ?_|refine Qhf ?_|refine Qhe ?_|(apply W_rg;focus(intro _;simp only[zz,simprocAttr,QeD];(first|done|with_reducible exact rfl)))|(refine W_cT ?_ ?_;focus(simp only[zp,simprocAttr];done))|(refine W_cF ?_ ?_;focus(simp only[zp,simprocAttr];done)))<;>(try simp only[zp,simprocAttr])))
   exact⟨trivial,rfl⟩
  ·rfl
  ·refine w_r trivial ?_
   exact Qah (vs:= [.fslice []]) rfl rfl ⟨rfl,rfl⟩
 |cons b l=>
  simp only[List.length_cons]at hl
  have hz:QaS 1 (Qai b::l.map Qai)=true:=Qaz (b::l)
  have hb:D.int .u8 (b.toNat:Int)=Qai b:=rfl
  have m1:(l.length+1)*2≤70368744177664:=by omega
  (repeat((first|refine QlL ?_|refine W_bk ?_|refine QlG ?_|refine Qhf ?_|refine Qhe ?_|(apply W_rg;focus(intro _;simp only[zz,simprocAttr,hz,m1,List.map_cons,List.length_cons,List.length_map];(first|done|with_reducible exact rfl)))|(refine W_cT ?_ ?_;focus(simp only[zp,simprocAttr];done))|(refine W_cF ?_ ?_;focus(simp only[zp,simprocAttr];done)))<;>(try simp only[zp,simprocAttr])))
  exact Qah (vs:= [rF (b::l)]) rfl rfl ⟨rfl,rfl⟩
def Qec(a:Bool)(n:Int)(d:Tx):Option Tx:=if n<0∨1048576<d.length∨(a=true∧0<d.length)then none else some ((if a=true then 2 else 1)::(be n 8++d))
abbrev encLV:Option Tx→AV
 |none=> .tuple [.d (.slice []),intD 170]
 |some x=> .tuple [.d (.slice (x.map Qai)),intD 0]
theorem Qbo(K:Qab)(n:Nat)(hn:K.length=n):∃M:AObj→Qab,(∀o,K++ [o]=M o)∧(∀o,(M o)[n]? =some o)∧(∀o o',(M o).set n o'=M o')∧(∀o,(M o).length=n+1)∧(∀(i:Nat) (o x:AObj),K[i]? =some x→(M o)[i]? =some x):=
 ⟨fun o=>K++ [o],fun _=>rfl,fun o=>by subst hn;simp,fun o o'=>by subst hn;simp,fun o=>by simp[hn],fun i o x h=>by
   have:=(List.getElem?_eq_some_iff.1 h).1
   simp only[]
   rw[List.getElem?_append_left this,h]⟩
theorem Qjz(a b:Tx):a.map Qai++b.map Qai=(a++b).map Qai:=List.map_append.symm
theorem QhK(lim:Nat)(H:Qab)(a:Bool)(n:Int)(d:Tx):Ev (QaE code Qa3) 47 lim [lkD a n d] H (encLV (Qec a n d)) H:=by
 refine Fn.ev ?_
 refine QbU (pn rfl) rfl (show code 47=some c47 from rfl) rfl ?_;simp only[List.length_cons,List.length_nil,List.cons_append,List.nil_append,simprocAttr]
 obtain⟨K,hK⟩:∃K,H++ [lkO a n d]=K:=⟨_,rfl⟩
 have gK:K[H.length]? =some (lkO a n d):=by rw[←hK];exact Qdv _ _
 by_cases hn:n<0
 ·have e:Qec a n d=none:=by unfold Qec;rw[if_pos (.inl hn)]
  rw[e]
  have f1:(n<0)=True:=eq_true hn
  refine w_r (j_ hK (j_ gK f1)) ?_
  exact Qah (vs:= [.fslice [],intD 170]) rfl rfl ⟨rfl,rfl⟩
 have f1:(n<0)=False:=eq_false hn
 by_cases hd:1048576<d.length
 ·have e:Qec a n d=none:=by unfold Qec;rw[if_pos (.inr (.inl hd))]
  rw[e]
  have f2:((d.length:Int)>1048576)=True:=eq_true (by omega)
  refine w_r (j_ hK (j_ gK (j_ f1 (j_ f2 (@List.length_map.{0,0}))))) ?_
  exact Qah (vs:= [.fslice [],intD 170]) rfl rfl ⟨rfl,rfl⟩
 have f2:((d.length:Int)>1048576)=False:=eq_false (by omega)
 cases a with
 |false=>
  have e:Qec false n d=some (1::(be n 8++d)):=by unfold Qec;rw[if_neg (by rintro(h|h|⟨h',h⟩)<;>first|omega|cases h')];rfl
  rw[e]
  have p1:Ev (QaE code Qa3) 91 H.length [.fslice [.int .u8 1],intD 8,.d (.int .i64 n)] K (.fslice ((1::be n 8).map Qai)) K:=put_ev H.length K [1] n (by simp)
  have hb:=Qdm n 8
  obtain⟨q,hq⟩:∃q,(1::be n 8).map Qai=q:=⟨_,rfl⟩
  rw[hq]at p1
  have hql:q.length=9:=by rw[←hq];simp[hb]
  have hz1:QaS 1 q=true:=by rw[←hq];exact Qaz _
  have hz2:=Qaz d
  have m1:(9+d.length)*2≤70368744177664:=by omega
  refine w_r (j_ hK (j_ gK (j_ f1 (j_ f2 (@List.length_map.{0,0}))))) ?_
  refine w_1 p1 (j_ gK (j_ hz1 (j_ hz2 (j_ m1 (j_ hql (@List.length_map.{0,0})))))) ?_
  refine w_r trivial ?_
  exact Qah (vs:= [.fslice (q++d.map Qai),intD 0]) rfl rfl ⟨by rw[←hq,Qjz];rfl,rfl⟩
 |true=>
  by_cases h0:0<d.length
  ·have e:Qec true n d=none:=by unfold Qec;rw[if_pos (.inr (.inr ⟨rfl,h0⟩))]
   rw[e]
   have f3:((d.length:Int)>0)=True:=eq_true (by omega)
   refine w_r (j_ hK (j_ gK (j_ f1 (j_ f2 (j_ f3 (@List.length_map.{0,0})))))) ?_
   exact Qah (vs:= [.fslice [],intD 170]) rfl rfl ⟨rfl,rfl⟩
  ·have f3:((d.length:Int)>0)=False:=eq_false (by omega)
   have e:Qec true n d=some (2::(be n 8++d)):=by unfold Qec;rw[if_neg (by rintro(h|h|⟨h',h⟩)<;>first|omega|cases h')];rfl
   rw[e]
   have p1:Ev (QaE code Qa3) 91 H.length [.fslice [.int .u8 2],intD 8,.d (.int .i64 n)] K (.fslice ((2::be n 8).map Qai)) K:=put_ev H.length K [2] n (by simp)
   have hb:=Qdm n 8
   obtain⟨q,hq⟩:∃q,(2::be n 8).map Qai=q:=⟨_,rfl⟩
   rw[hq]at p1
   have hql:q.length=9:=by rw[←hq];simp[hb]
   have hz1:QaS 1 q=true:=by rw[←hq];exact Qaz _
   have hz2:=Qaz d
   have m1:(9+d.length)*2≤70368744177664:=by omega
   refine w_r (j_ hK (j_ gK (j_ f1 (j_ f2 (j_ f3 (@List.length_map.{0,0})))))) ?_
   refine w_1 p1 (j_ gK (j_ hz1 (j_ hz2 (j_ m1 (j_ hql (@List.length_map.{0,0})))))) ?_
   refine w_r trivial ?_
   exact Qah (vs:= [.fslice (q++d.map Qai),intD 0]) rfl rfl ⟨by rw[←hq,Qjz];rfl,rfl⟩
theorem encR_ev(lim:Nat)(H:Qab)(a:Bool)(n:Int)(d:Tx):Ev (QaE code Qa3) 48 lim [lkD a n d] H (encLV (Qec a n d)) H:=by
 refine Fn.ev ?_
 refine QbU (pn rfl) rfl (show code 48=some c48 from rfl) rfl ?_;simp only[List.length_cons,List.length_nil,List.cons_append,List.nil_append,simprocAttr]
 obtain⟨K,hK⟩:∃K,H++ [lkO a n d]=K:=⟨_,rfl⟩
 have gK:K[H.length]? =some (lkO a n d):=by rw[←hK];exact Qdv _ _
 by_cases hn:n<0
 ·have e:Qec a n d=none:=by unfold Qec;rw[if_pos (.inl hn)]
  rw[e]
  have f1:(n<0)=True:=eq_true hn
  refine w_r (j_ hK (j_ gK f1)) ?_
  exact Qah (vs:= [.fslice [],intD 170]) rfl rfl ⟨rfl,rfl⟩
 have f1:(n<0)=False:=eq_false hn
 have p1:Ev (QaE code Qa3) 76 H.length [.d (.int .i64 n),intD 8] K (.fslice ((be n 8).map Qai)) K:=numb_ev H.length K n
 have hb:=Qdm n 8
 obtain⟨q,hq⟩:∃q,(be n 8).map Qai=q:=⟨_,rfl⟩
 rw[hq]at p1
 have hql:q.length=8:=by rw[←hq];simp[hb]
 have hz1:QaS 1 q=true:=by rw[←hq];exact Qaz _
 have hz2:=Qaz d
 cases a with
 |false=>
  by_cases hd:1048576<d.length
  ·have e:Qec false n d=none:=by unfold Qec;rw[if_pos (.inr (.inl hd))]
   rw[e]
   have f2:((d.length:Int)>1048576)=True:=eq_true (by omega)
   refine w_r (j_ hK (j_ gK (j_ f1 (j_ f2 (@List.length_map.{0,0}))))) ?_
   exact Qah (vs:= [.fslice [],intD 170]) rfl rfl ⟨rfl,rfl⟩
  have f2:((d.length:Int)>1048576)=False:=eq_false (by omega)
  have e:Qec false n d=some (1::(be n 8++d)):=by unfold Qec;rw[if_neg (by rintro(h|h|⟨h',h⟩)<;>first|omega|cases h')];rfl
  rw[e]
  obtain⟨q1,hq1⟩:∃q1,D.int .u8 1::q=q1:=⟨_,rfl⟩
  have hq1b:q1=(1::be n 8).map Qai:=by rw[←hq1,←hq];rfl
  have hql1:q1.length=9:=by rw[←hq1];simp[hql]
  have hz3:QaS 1 q1=true:=by rw[hq1b];exact Qaz _
  have m1:(9+d.length)*2≤70368744177664:=by omega
  refine w_r (j_ hK (j_ gK (j_ f1 (j_ f2 (@List.length_map.{0,0}))))) ?_
  refine w_1 p1 (j_ gK (j_ hz1 (j_ hz2 (j_ hz3 (j_ hql (j_ hq1 (j_ hql1 (j_ m1 (@List.length_map.{0,0}))))))))) ?_
  refine w_r trivial ?_
  exact Qah (vs:= [.fslice (q1++d.map Qai),intD 0]) rfl rfl ⟨by rw[hq1b,Qjz];rfl,rfl⟩
 |true=>
  by_cases h0:0<d.length
  ·have e:Qec true n d=none:=by unfold Qec;rw[if_pos (.inr (.inr ⟨rfl,h0⟩))]
   rw[e]
   have f3:((d.length:Int)>0)=True:=eq_true (by omega)
   refine w_r (j_ hK (j_ gK (j_ f1 (j_ f3 (@List.length_map.{0,0}))))) ?_
   exact Qah (vs:= [.fslice [],intD 170]) rfl rfl ⟨rfl,rfl⟩
  ·have f3:((d.length:Int)>0)=False:=eq_false (by omega)
   have f2:((d.length:Int)>1048576)=False:=eq_false (by omega)
   have e:Qec true n d=some (2::(be n 8++d)):=by unfold Qec;rw[if_neg (by rintro(h|h|⟨h',h⟩)<;>omega)];rfl
   rw[e]
   have hd0:d= []:=List.length_eq_zero_iff.1 (by omega)
   refine w_r (j_ hK (j_ gK (j_ f1 (j_ f2 (j_ f3 (@List.length_map.{0,0})))))) ?_
   refine w_1 p1 (j_ gK (j_ hz1 hql)) ?_
   refine w_r trivial ?_
   exact Qah (vs:= [.fslice (D.int .u8 2::q),intD 0]) rfl rfl ⟨by rw[←hq,hd0,List.append_nil];rfl,rfl⟩
def QhL(b:Tx):Option (Bool×Int×Tx):=
 if b.length<9∨1048585<b.length∨¬(b.headD 0=1∨b.headD 0=2)∨rdL ((b.drop 1).take 8)<0∨(b.headD 0=2∧9<b.length)then none
 else some (decide (b.headD 0=2),rdL ((b.drop 1).take 8),b.drop 9)
abbrev decLV:Option (Bool×Int×Tx)→AV
 |none=> .tuple [lkD false 0 [],intD 170]
 |some l=> .tuple [lkD l.1 l.2.1 l.2.2,intD 0]
theorem Qmr{b:Tx}(h:¬b.length<9):∃c m r,b=c::(m++r)∧m.length=8:=by
 cases b with
 |nil=>simp at h
 |cons c l=>exact⟨c,l.take 8,l.drop 8,by rw[List.take_append_drop],by simp at h⊢;omega⟩
abbrev zL:AObj:= .cells [boolD false,.d (.int .i64 0),.fslice []]
theorem QeJ(lim:Nat)(H:Qab)(b:Tx)(hb:b.length≤10000000000):Ev (QaE code Qa3) 49 lim [.d (.slice (b.map Qai))] H (decLV (QhL b)) H:=by
 refine Fn.ev ?_
 refine QbU (pn rfl) rfl (show code 49=some c49 from rfl) rfl ?_;simp only[List.length_cons,List.length_nil,List.cons_append,List.nil_append,simprocAttr]
 obtain⟨M,k1,g1,s1,l1,t1⟩:=Qbo H H.length rfl
 by_cases h9:b.length<9
 ·have e:QhL b=none:=by unfold QhL;rw[if_pos (.inl h9)]
  rw[e]
  have f1:((b.length:Int)<9)=True:=eq_true (by omega)
  refine w_r (j_ f1 (j_ k1 (j_ g1 (j_ s1 (@List.length_map.{0,0}))))) ?_
  refine Qah (vs:= [lkD false 0 [],intD 170]) ?_ rfl ⟨rfl,rfl⟩
  simp only[Qbw,zz,simprocAttr,g1];rfl
 have f1:((b.length:Int)<9)=False:=eq_false (by omega)
 by_cases hbig:1048585<b.length
 ·have e:QhL b=none:=by unfold QhL;rw[if_pos (.inr (.inl hbig))]
  rw[e]
  have f2:((b.length:Int)>1048585)=True:=eq_true (by omega)
  refine w_r (j_ f1 (j_ f2 (j_ k1 (j_ g1 (j_ s1 (@List.length_map.{0,0})))))) ?_
  refine Qah (vs:= [lkD false 0 [],intD 170]) ?_ rfl ⟨rfl,rfl⟩
  simp only[Qbw,zz,simprocAttr,g1];rfl
 have f2:((b.length:Int)>1048585)=False:=eq_false (by omega)
 obtain⟨c,m,r,hb2,hm⟩:=Qmr h9
 have hrl:b.length=r.length+9:=by rw[hb2];simp[hm];omega
 obtain⟨L,hL⟩:∃L,b.map Qai=L:=⟨_,rfl⟩
 have hLl:L.length=b.length:=by rw[←hL];simp
 have g0:L[0]? =some (D.int .u8 (c.toNat:Int)):=by rw[←hL,hb2];rfl
 have q1:List.drop 1 (List.take 9 L)=m.map Qai:=by
  rw[←hL,hb2,List.map_cons,List.map_append]
  show List.take 8 (m.map Qai++r.map Qai)=_
  rw[List.take_left' (by simp[hm])]
 have q2:List.drop 9 (List.take b.length L)=r.map Qai:=by
  rw[List.take_of_length_le (by omega),←hL,hb2,List.map_cons,List.map_append]
  show List.drop 8 (m.map Qai++r.map Qai)=_
  rw[List.drop_left' (by simp[hm])]
 have a1:=QlX H.length (M zL) m (by omega)
 have a2:Ev (QaE code Qa3) 93 H.length [.d (.slice (r.map Qai))] (M zL) (.fslice (r.map Qai)) (M zL):=QkO H.length (M zL) r (by omega)
 have x9:((9:Int)≤(b.length:Int))=True:=eq_true (by omega)
 have x1:((b.length:Int)).toNat=b.length:=by omega
 rw[hL]
 have hz:QaS 1 L=true:=by rw[←hL];exact Qaz _
 have hb0:b.headD 0=c:=by rw[hb2];rfl
 have hm8:(b.drop 1).take 8=m:=by rw[hb2];show(m++r).take 8=m;rw[List.take_left' hm]
 have hr9:b.drop 9=r:=by rw[hb2];show(m++r).drop 8=r;rw[List.drop_left' hm]
 have hdl:QhL b=if((¬(c=1∨c=2))∨rdL m<0∨(c=2∧0<r.length))then none else some (decide (c=2),rdL m,r):=by
  unfold QhL
  rw[hb0,hm8,hr9]
  by_cases hc:(¬(c=1∨c=2))∨rdL m<0∨(c=2∧0<r.length)
  ·rw[if_pos hc,if_pos]
   rcases hc with h|h|⟨h,h'⟩
   ·exact .inr (.inr (.inl h))
   ·exact .inr (.inr (.inr (.inl h)))
   ·exact .inr (.inr (.inr (.inr ⟨h,by omega⟩)))
  ·rw[if_neg hc,if_neg]
   rintro(h|h|h|h|⟨h,h'⟩)
   ·omega
   ·omega
   ·exact hc (.inl h)
   ·exact hc (.inr (.inl h))
   ·exact hc (.inr (.inr ⟨h,by omega⟩))
 have hc2:((c.toNat:Int)==2)=decide (c=2):=by
  rw[Bool.eq_iff_iff];simp only[beq_iff_eq,decide_eq_true_eq]
  rw[←UInt8.toNat_inj];show _↔c.toNat=2;omega
 have hc1:((c.toNat:Int) !=1)= !decide (c=1):=by
  rw[Bool.eq_iff_iff];simp only[bne_iff_ne,ne_eq,Bool.not_eq_true',decide_eq_false_iff_not]
  rw[←UInt8.toNat_inj];show _↔¬c.toNat=1;omega
 have hc3:((c.toNat:Int) !=2)= !decide (c=2):=by
  rw[Bool.eq_iff_iff];simp only[bne_iff_ne,ne_eq,Bool.not_eq_true',decide_eq_false_iff_not]
  rw[←UInt8.toNat_inj];show _↔¬c.toNat=2;omega
 rw[hdl]
 obtain⟨M2,k2,g2,s2,l2,t2⟩:=Qbo (M zL) (H.length+1) (l1 _)
 have b1:=QlX H.length (M2 zL) m (by omega)
 have b2:Ev (QaE code Qa3) 93 H.length [.d (.slice (r.map Qai))] (M2 zL) (.fslice (r.map Qai)) (M2 zL):=QkO H.length (M2 zL) r (by omega)
 generalize rdL m=n at*
 have u1:∀o,(M2 o)[H.length]? =some zL:=fun o=>t2 _ o _ (g1 _)
 have hll:H.length≤H.length+1:=by omega
 have l1z:=l1 zL
 have gS:∀o o',(List.set (M2 o) H.length o')[H.length]? =some o':=fun o o'=>List.getElem?_set_self (by rw[l2];omega)
 by_cases c2:c=2
 ·have d2:decide (c=2)=true:=decide_eq_true c2
  have d1:decide (c=1)=false:=decide_eq_false (by rw[c2];decide)
  rw[d2]at hc2 hc3⊢
  rw[d1]at hc1
  simp only[Bool.not_true,Bool.not_false]at hc1 hc3
  refine w_r (j_ f1 (j_ f2 (j_ k1 hLl))) ?_
  refine w_4 a1 a2 b1 b2 (j_ g0 (j_ q1 (j_ q2 (j_ x9 (j_ x1 (j_ hLl (j_ hz (j_ hc2 (j_ k2 (j_ g2 (j_ s2 (j_ l1z hll)))))))))))) ?_
  by_cases hn:n<0
  ·have f3:(n<0)=True:=eq_true hn
   rw[if_pos (Or.inr (.inl hn))]
   refine w_r (j_ g0 (j_ hLl (j_ hz (j_ hc1 (j_ hc3 (j_ g2 (j_ f3 u1))))))) ?_
   refine Qah (vs:= [lkD false 0 [],intD 170]) ?_ rfl ⟨rfl,rfl⟩
   simp only[Qbw,zz,simprocAttr,gS]<;>rfl
  have f3:(n<0)=False:=eq_false hn
  by_cases h0:0<r.length
  ·have f4:((r.length:Int)>0)=True:=eq_true (by omega)
   rw[if_pos (Or.inr (.inr ⟨c2,h0⟩))]
   refine w_r (j_ g0 (j_ hLl (j_ hz (j_ hc1 (j_ hc3 (j_ g2 (j_ f3 (j_ f4 (j_ u1 (@List.length_map.{0,0})))))))))) ?_
   refine Qah (vs:= [lkD false 0 [],intD 170]) ?_ rfl ⟨rfl,rfl⟩
   simp only[Qbw,zz,simprocAttr,gS]<;>rfl
  ·have f4:((r.length:Int)>0)=False:=eq_false (by omega)
   rw[if_neg (by rintro(h|h|⟨h,h'⟩)<;>first|exact h (.inr c2)|exact hn h|exact h0 h')]
   refine w_r (j_ g0 (j_ hLl (j_ hz (j_ hc1 (j_ hc3 (j_ g2 (j_ f3 (j_ f4 (j_ u1 (@List.length_map.{0,0})))))))))) ?_
   refine Qah (vs:= [lkD true n r,intD 0]) ?_ rfl ⟨rfl,rfl⟩
   simp only[Qbw,zz,simprocAttr,gS]<;>rfl
 have d2:decide (c=2)=false:=decide_eq_false c2
 rw[d2]at hc2 hc3⊢
 by_cases c1:c=1
 ·have d1:decide (c=1)=true:=decide_eq_true c1
  rw[d1]at hc1
  simp only[Bool.not_true,Bool.not_false]at hc1 hc3
  refine w_r (j_ f1 (j_ f2 (j_ k1 hLl))) ?_
  refine w_4 a1 a2 b1 b2 (j_ g0 (j_ q1 (j_ q2 (j_ x9 (j_ x1 (j_ hLl (j_ hz (j_ hc2 (j_ k2 (j_ g2 (j_ s2 (j_ l1z hll)))))))))))) ?_
  by_cases hn:n<0
  ·have f3:(n<0)=True:=eq_true hn
   rw[if_pos (Or.inr (.inl hn))]
   refine w_r (j_ g0 (j_ hLl (j_ hz (j_ hc1 (j_ hc3 (j_ g2 (j_ f3 u1))))))) ?_
   refine Qah (vs:= [lkD false 0 [],intD 170]) ?_ rfl ⟨rfl,rfl⟩
   simp only[Qbw,zz,simprocAttr,gS]<;>rfl
  ·have f3:(n<0)=False:=eq_false hn
   rw[if_neg (by rintro(h|h|⟨h,h'⟩)<;>first|exact h (.inl c1)|exact hn h|exact c2 h)]
   refine w_r (j_ g0 (j_ hLl (j_ hz (j_ hc1 (j_ hc3 (j_ g2 (j_ f3 u1))))))) ?_
   refine Qah (vs:= [lkD false n r,intD 0]) ?_ rfl ⟨rfl,rfl⟩
   simp only[Qbw,zz,simprocAttr,gS]<;>rfl
 ·have d1:decide (c=1)=false:=decide_eq_false c1
  rw[d1]at hc1
  simp only[Bool.not_true,Bool.not_false]at hc1 hc3
  rw[if_pos (Or.inl (by rintro(h|h)<;>contradiction))]
  refine w_r (j_ f1 (j_ f2 (j_ k1 hLl))) ?_
  refine w_4 a1 a2 b1 b2 (j_ g0 (j_ q1 (j_ q2 (j_ x9 (j_ x1 (j_ hLl (j_ hz (j_ hc2 (j_ k2 (j_ g2 (j_ s2 (j_ l1z hll)))))))))))) ?_
  refine w_r (j_ g0 (j_ hLl (j_ hz (j_ hc1 (j_ hc3 (j_ g2 u1)))))) ?_
  refine Qah (vs:= [lkD false 0 [],intD 170]) ?_ rfl ⟨rfl,rfl⟩
  simp only[Qbw,zz,simprocAttr,gS]<;>rfl
theorem Qkv(lim:Nat)(H:Qab)(a:Bool)(n:Int)(d:Tx)(a':Bool)(n':Int)(d':Tx):Ev (QaE code Qa3) 51 lim [lkD a n d,lkD a' n' d'] H (boolD (decide (a=a'∧n=n'∧d=d'))) H:=by
 refine Fn.ev ?_
 refine QbU (pn rfl) rfl (show code 51=some c51 from rfl) rfl ?_;simp only[List.length_cons,List.length_nil,List.cons_append,List.nil_append,simprocAttr]
 obtain⟨K,hK⟩:∃K,H++ [lkO a n d]++ [lkO a' n' d']=K:=⟨_,rfl⟩
 have g1:K[H.length]? =some (lkO a n d):=by rw[←hK];simp
 have g2:K[H.length+1]? =some (lkO a' n' d'):=by rw[←hK];simp
 have l1:(H++ [lkO a n d]).length=H.length+1:=by simp
 have hb1:=Qbs d
 have hb2:=Qbs d'
 by_cases ha:a=a'
 ·by_cases hn:n=n'
  ·by_cases hd:d=d'
   ·have e:decide (a=a'∧n=n'∧d=d')=true:=decide_eq_true ⟨ha,hn,hd⟩
    rw[e]
    have e1:(a==a')=true:=by simpa using ha
    have e2':(n==n')=true:=by simpa using hn
    have e3':(d==d')=true:=by simpa using hd
    refine w_r (j_ hK (j_ g1 (j_ g2 (j_ l1 (j_ hb1 (j_ hb2 (j_ e1 (j_ e2' e3')))))))) ?_
    exact Qah (vs:= [boolD true]) rfl rfl ⟨rfl,rfl⟩
   ·have e:decide (a=a'∧n=n'∧d=d')=false:=decide_eq_false (fun h=>hd h.2.2)
    rw[e]
    have e1:(a==a')=true:=by simpa using ha
    have e2':(n==n')=true:=by simpa using hn
    have e3':(d==d')=false:=by simpa using hd
    refine w_r (j_ hK (j_ g1 (j_ g2 (j_ l1 (j_ hb1 (j_ hb2 (j_ e1 (j_ e2' e3')))))))) ?_
    exact Qah (vs:= [boolD false]) rfl rfl ⟨rfl,rfl⟩
  ·have e:decide (a=a'∧n=n'∧d=d')=false:=decide_eq_false (fun h=>hn h.2.1)
   rw[e]
   have e1:(a==a')=true:=by simpa using ha
   have e2':(n==n')=false:=by simpa using hn
   refine w_r (j_ hK (j_ g1 (j_ g2 (j_ l1 (j_ e1 e2'))))) ?_
   exact Qah (vs:= [boolD false]) rfl rfl ⟨rfl,rfl⟩
 ·have e:decide (a=a'∧n=n'∧d=d')=false:=decide_eq_false (fun h=>ha h.1)
  rw[e]
  have e1:(a==a')=false:=by simpa using ha
  refine w_r (j_ hK (j_ g1 (j_ g2 (j_ l1 e1)))) ?_
  exact Qah (vs:= [boolD false]) rfl rfl ⟨rfl,rfl⟩
theorem decR_ev(lim:Nat)(H:Qab)(b:Tx)(hb:b.length≤10000000000):Ev (QaE code Qa3) 50 lim [.d (.slice (b.map Qai))] H (decLV (QhL b)) H:=by
 refine Fn.ev ?_
 refine QbU (pn rfl) rfl (show code 50=some c50 from rfl) rfl ?_;simp only[List.length_cons,List.length_nil,List.cons_append,List.nil_append,simprocAttr]
 obtain⟨M,k1,g1,s1,l1,t1⟩:=Qbo H H.length rfl
 by_cases h9:b.length<9
 ·have e:QhL b=none:=by unfold QhL;rw[if_pos (.inl h9)]
  rw[e]
  have f1:((b.length:Int)<9)=True:=eq_true (by omega)
  refine w_r (j_ f1 (j_ k1 (j_ g1 (j_ s1 (@List.length_map.{0,0}))))) ?_
  refine Qah (vs:= [lkD false 0 [],intD 170]) ?_ rfl ⟨rfl,rfl⟩
  simp only[Qbw,zz,simprocAttr,g1];rfl
 have f1:((b.length:Int)<9)=False:=eq_false (by omega)
 obtain⟨c,m,r,hb2,hm⟩:=Qmr h9
 obtain⟨k,m',hk,hm'⟩:∃k m',m=k::m'∧m'.length=7:=by
  cases m with
  |nil=>simp at hm
  |cons k m'=>exact⟨k,m',rfl,by simpa using hm⟩
 have hrl:b.length=r.length+9:=by rw[hb2];simp[hm];omega
 have hb0:b.headD 0=c:=by rw[hb2];rfl
 have hm8:(b.drop 1).take 8=m:=by rw[hb2];show(m++r).take 8=m;rw[List.take_left' hm]
 have hr9:b.drop 9=r:=by rw[hb2];show(m++r).drop 8=r;rw[List.drop_left' hm]
 have hneg:rdL m<0↔128≤k.toNat:=by rw[hk];exact(Qjo hm').1
 have hdl:QhL b=if(1048576<r.length∨(¬(c=1∨c=2))∨rdL m<0∨(c=2∧0<r.length))then none else some (decide (c=2),rdL m,r):=by
  unfold QhL
  rw[hb0,hm8,hr9]
  by_cases hc:1048576<r.length∨(¬(c=1∨c=2))∨rdL m<0∨(c=2∧0<r.length)
  ·rw[if_pos hc,if_pos]
   rcases hc with h|h|h|⟨h,h'⟩
   ·exact .inr (.inl (by omega))
   ·exact .inr (.inr (.inl h))
   ·exact .inr (.inr (.inr (.inl h)))
   ·exact .inr (.inr (.inr (.inr ⟨h,by omega⟩)))
  ·rw[if_neg hc,if_neg]
   rintro(h|h|h|h|⟨h,h'⟩)
   ·omega
   ·exact hc (.inl (by omega))
   ·exact hc (.inr (.inl h))
   ·exact hc (.inr (.inr (.inl h)))
   ·exact hc (.inr (.inr (.inr ⟨h,by omega⟩)))
 have hc2:((c.toNat:Int)==2)=decide (c=2):=by
  rw[Bool.eq_iff_iff];simp only[beq_iff_eq,decide_eq_true_eq]
  rw[←UInt8.toNat_inj];show _↔c.toNat=2;omega
 have hc1:((c.toNat:Int) !=1)= !decide (c=1):=by
  rw[Bool.eq_iff_iff];simp only[bne_iff_ne,ne_eq,Bool.not_eq_true',decide_eq_false_iff_not]
  rw[←UInt8.toNat_inj];show _↔¬c.toNat=1;omega
 have hc3:((c.toNat:Int) !=2)= !decide (c=2):=by
  rw[Bool.eq_iff_iff];simp only[bne_iff_ne,ne_eq,Bool.not_eq_true',decide_eq_false_iff_not]
  rw[←UInt8.toNat_inj];show _↔¬c.toNat=2;omega
 obtain⟨L,hL⟩:∃L,b.map Qai=L:=⟨_,rfl⟩
 have hLl:L.length=b.length:=by rw[←hL];simp
 have g0:L[0]? =some (D.int .u8 (c.toNat:Int)):=by rw[←hL,hb2];rfl
 have gk:L[1]? =some (D.int .u8 (k.toNat:Int)):=by rw[←hL,hb2,hk];rfl
 have q1:List.drop 1 (List.take 9 L)=m.map Qai:=by
  rw[←hL,hb2,List.map_cons,List.map_append]
  show List.take 8 (m.map Qai++r.map Qai)=_
  rw[List.take_left' (by simp[hm])]
 have q2:List.drop 9 (List.take b.length L)=r.map Qai:=by
  rw[List.take_of_length_le (by omega),←hL,hb2,List.map_cons,List.map_append]
  show List.drop 8 (m.map Qai++r.map Qai)=_
  rw[List.drop_left' (by simp[hm])]
 have hz:QaS 1 L=true:=by rw[←hL];exact Qaz _
 have hzr:=Qaz r
 have a1:=read_ev H.length (M zL) m (by omega)
 have x9:((9:Int)≤(b.length:Int))=True:=eq_true (by omega)
 have x1:((b.length:Int)).toNat=b.length:=by omega
 have wl:IntKind.i64.wrap ((b.length:Int)-9)=(r.length:Int):=by rw[w64 (by omega) (by omega)];omega
 rw[hL,hdl]
 by_cases hbad:(¬(c=1∨c=2))∨(c=2∧0<r.length)
 ·rw[if_pos (by rcases hbad with h|h;exact .inr (.inl h);exact .inr (.inr (.inr h)))]
  have hcase:(((c.toNat:Int) !=1)=true∧((c.toNat:Int) !=2)=true)∨(((c.toNat:Int) !=1)=true∧((c.toNat:Int) !=2)=false∧((c.toNat:Int)==2)=true∧((b.length:Int)>9)=True):=by
   rw[hc1,hc2,hc3]
   rcases hbad with h|⟨h,h'⟩
   ·exact .inl ⟨by simp;exact fun e=>h (.inl e),by simp;exact fun e=>h (.inr e)⟩
   ·exact .inr ⟨by rw[h];decide,by rw[h];decide,by rw[h];decide,eq_true (by omega)⟩
  rcases hcase with⟨e1,e2'⟩|⟨e1,e2',e3',e4'⟩
  ·refine w_r (j_ f1 (j_ k1 (j_ g1 (j_ s1 (j_ hLl (j_ hz (j_ g0 (j_ e1 e2')))))))) ?_
   refine Qah (vs:= [lkD false 0 [],intD 170]) ?_ rfl ⟨rfl,rfl⟩
   simp only[Qbw,zz,simprocAttr,g1]<;>rfl
  ·refine w_r (j_ f1 (j_ k1 (j_ g1 (j_ s1 (j_ hLl (j_ hz (j_ g0 (j_ e1 (j_ e2' (j_ e3' e4')))))))))) ?_
   refine Qah (vs:= [lkD false 0 [],intD 170]) ?_ rfl ⟨rfl,rfl⟩
   simp only[Qbw,zz,simprocAttr,g1]<;>rfl
 have hcase:(((c.toNat:Int) !=1)=false∧((c.toNat:Int)==2)=false∧decide (c=2)=false)∨(((c.toNat:Int) !=1)=true∧((c.toNat:Int) !=2)=false∧((c.toNat:Int)==2)=true∧((b.length:Int)>9)=False∧decide (c=2)=true):=by
  rw[hc1,hc2,hc3]
  by_cases h2:c=2
  ·have:¬0<r.length:=fun h=>hbad (.inr ⟨h2,h⟩)
   exact .inr ⟨by rw[h2];decide,by rw[h2];decide,by rw[h2];decide,eq_false (by omega),by rw[h2];decide⟩
  ·have h1:c=1:=Classical.byContradiction fun h1=>hbad (.inl (by rintro(h|h)<;>contradiction))
   exact .inl ⟨by rw[h1];decide,by rw[h1];decide,by rw[h1];decide⟩
 by_cases hlong:1048576<r.length
 ·rw[if_pos (.inl hlong)]
  have f5:((r.length:Int)>1048576)=True:=eq_true (by omega)
  rcases hcase with⟨e1,e2',_⟩|⟨e1,e2',e3',e4',_⟩
  ·refine w_r (j_ f1 (j_ k1 (j_ g1 (j_ s1 (j_ hLl (j_ hz (j_ g0 (j_ e1 (j_ e2' (j_ wl f5)))))))))) ?_
   refine Qah (vs:= [lkD false 0 [],intD 170]) ?_ rfl ⟨rfl,rfl⟩
   simp only[Qbw,zz,simprocAttr,g1]<;>rfl
  ·refine w_r (j_ f1 (j_ k1 (j_ g1 (j_ s1 (j_ hLl (j_ hz (j_ g0 (j_ e1 (j_ e2' (j_ e3' (j_ e4' (j_ wl f5)))))))))))) ?_
   refine Qah (vs:= [lkD false 0 [],intD 170]) ?_ rfl ⟨rfl,rfl⟩
   simp only[Qbw,zz,simprocAttr,g1]<;>rfl
 have f5:((r.length:Int)>1048576)=False:=eq_false (by omega)
 by_cases h128:128≤k.toNat
 ·rw[if_pos (.inr (.inr (.inl (hneg.2 h128))))]
  have f6:((k.toNat:Int)≥128)=True:=eq_true (by omega)
  rcases hcase with⟨e1,e2',_⟩|⟨e1,e2',e3',e4',_⟩
  ·refine w_r (j_ f1 (j_ k1 (j_ g1 (j_ s1 (j_ hLl (j_ hz (j_ g0 (j_ gk (j_ e1 (j_ e2' (j_ wl (j_ f5 f6)))))))))))) ?_
   refine Qah (vs:= [lkD false 0 [],intD 170]) ?_ rfl ⟨rfl,rfl⟩
   simp only[Qbw,zz,simprocAttr,g1]<;>rfl
  ·refine w_r (j_ f1 (j_ k1 (j_ g1 (j_ s1 (j_ hLl (j_ hz (j_ g0 (j_ gk (j_ e1 (j_ e2' (j_ e3' (j_ e4' (j_ wl (j_ f5 f6)))))))))))))) ?_
   refine Qah (vs:= [lkD false 0 [],intD 170]) ?_ rfl ⟨rfl,rfl⟩
   simp only[Qbw,zz,simprocAttr,g1]<;>rfl
 have f6:((k.toNat:Int)≥128)=False:=eq_false (by omega)
 rw[if_neg (by rintro(h|h|h|h);exact hlong h;exact hbad (.inl h);exact h128 (hneg.1 h);exact hbad (.inr h))]
 have m1:r.length*2≤70368744177664:=by omega
 have m2:(0+r.length)*2≤70368744177664:=by omega
 have u1:∀o,(List.set (M o) H.length o)[H.length]? =some o:=fun o=>by rw[s1,g1]
 generalize rdL m=n at*
 rcases hcase with⟨e1,e2',d2⟩|⟨e1,e2',e3',e4',d2⟩
 ·rw[d2]
  refine w_r (j_ f1 (j_ k1 (j_ hLl (j_ hz (j_ g0 (j_ gk (j_ e1 (j_ e2' (j_ wl (j_ f5 f6)))))))))) ?_
  refine w_1 a1 (j_ g0 (j_ q1 (j_ q2 (j_ x9 (j_ x1 (j_ hLl (j_ hz (j_ hzr (j_ e2' (j_ m1 (j_ m2 (j_ g1 (j_ s1 (@List.length_map.{0,0})))))))))))))) ?_
  refine w_r trivial ?_
  refine Qah (vs:= [lkD false n r,intD 0]) ?_ rfl ⟨rfl,rfl⟩
  simp only[Qbw,zz,simprocAttr,g1]<;>rfl
 ·rw[d2]
  refine w_r (j_ f1 (j_ k1 (j_ hLl (j_ hz (j_ g0 (j_ gk (j_ e1 (j_ e2' (j_ e3' (j_ e4' (j_ wl (j_ f5 f6)))))))))))) ?_
  refine w_1 a1 (j_ g0 (j_ q1 (j_ q2 (j_ x9 (j_ x1 (j_ hLl (j_ hz (j_ hzr (j_ e3' (j_ m1 (j_ m2 (j_ g1 (j_ s1 (@List.length_map.{0,0})))))))))))))) ?_
  refine w_r trivial ?_
  refine Qah (vs:= [lkD true n r,intD 0]) ?_ rfl ⟨rfl,rfl⟩
  simp only[Qbw,zz,simprocAttr,g1]<;>rfl
theorem enc_dec{a:Bool}{n:Int}{d x:Tx}(hn:n≤9223372036854775807)(h:Qec a n d=some x):QhL x=some (a,n,d):=by
 unfold Qec at h
 split at h
 ·cases h
 ·rename_i hc
  have h1:¬n<0:=fun h=>hc (.inl h)
  have h2:¬1048576<d.length:=fun h=>hc (.inr (.inl h))
  injection h with h
  obtain⟨k,rfl⟩:∃k:Nat,n=k:=⟨n.toNat,by omega⟩
  have hb:=Qdm (k:Int) 8
  have hrd:=rd_be (n:=k) (by omega)
  have e1:x.headD 0=if a=true then 2 else 1:=by rw[←h];rfl
  have e2:(x.drop 1).take 8=be (k:Int) 8:=by rw[←h];show(be (k:Int) 8++d).take 8=_;rw[List.take_left' hb]
  have e3:x.drop 9=d:=by rw[←h];show(be (k:Int) 8++d).drop 8=_;rw[List.drop_left' hb]
  have e4:x.length=d.length+9:=by rw[←h];simp[hb];omega
  unfold QhL
  rw[e1,e2,e3,hrd,if_neg]
  ·cases a<;>rfl
  ·rintro(h|h|h|h|⟨h,h'⟩)
   ·omega
   ·omega
   ·cases a
    ·exact h (.inl rfl)
    ·exact h (.inr rfl)
   ·exact h1 h
   ·cases a
    ·exact absurd h (by decide)
    ·exact hc (.inr (.inr ⟨rfl,by omega⟩))
theorem Qnk{b:Tx}{a:Bool}{n:Int}{d:Tx}(h:QhL b=some (a,n,d)):Qec a n d=some b:=by
 unfold QhL at h
 split at h
 ·cases h
 ·rename_i hc
  have h9:¬b.length<9:=fun h=>hc (.inl h)
  have hbig:¬1048585<b.length:=fun h=>hc (.inr (.inl h))
  have hkind:b.headD 0=1∨b.headD 0=2:=Classical.byContradiction fun h=>hc (.inr (.inr (.inl h)))
  have hn:¬rdL ((b.drop 1).take 8)<0:=fun h=>hc (.inr (.inr (.inr (.inl h))))
  have h2:¬(b.headD 0=2∧9<b.length):=fun h=>hc (.inr (.inr (.inr (.inr h))))
  obtain⟨c,m,r,hb2,hm⟩:=Qmr h9
  have hrl:b.length=r.length+9:=by rw[hb2];simp[hm];omega
  have hb0:b.headD 0=c:=by rw[hb2];rfl
  have hm8:(b.drop 1).take 8=m:=by rw[hb2];show(m++r).take 8=m;rw[List.take_left' hm]
  have hr9:b.drop 9=r:=by rw[hb2];show(m++r).drop 8=r;rw[List.drop_left' hm]
  rw[hb0]at hkind h2 h
  rw[hm8]at hn h
  rw[hr9]at h
  simp only[Option.some.injEq,Prod.mk.injEq]at h
  obtain⟨rfl,rfl,rfl⟩:=h
  have hbe:be (rdL m) 8=m:=by
   cases m with
   |nil=>simp at hm
   |cons k m'=>
    have hm':m'.length=7:=by simpa using hm
    have hk:k.toNat<128:=Nat.lt_of_not_le fun h=>hn ((Qjo hm').1.2 h)
    exact be_rd hm' hk
  unfold Qec
  rw[if_neg,hbe,hb2]
  ·rcases hkind with rfl|rfl<;>rfl
  ·rintro(h|h|⟨h,h'⟩)
   ·exact hn h
   ·omega
   ·exact h2 ⟨of_decide_eq_true h,by omega⟩
theorem QcL(lim:Nat)(H:Qab):Ev (QaE code Qa3) 42 lim [] H (boolD true) H:=QeQ (F:=Qny) rfl rfl
theorem encLV_eq(x:Option Tx):∃(y:Tx) (e:Int),encLV x= .tuple [.d (.slice (y.map Qai)),intD e]∧(x=none∧y= []∧e=170∨x=some y∧e=0):=by
 cases x with
 |none=>exact⟨[],170,rfl,.inl ⟨rfl,rfl,rfl⟩⟩
 |some y=>exact⟨y,0,rfl,.inr ⟨rfl,rfl⟩⟩
theorem decLV_eq(x:Option (Bool×Int×Tx)):∃(a:Bool) (n:Int) (d:Tx) (e:Int),decLV x= .tuple [.d (.agg [.bool a,.int .i64 n,.slice (d.map Qai)]),intD e]∧(x=none∧a=false∧n=0∧d= []∧e=170∨x=some (a,n,d)∧e=0):=by
 cases x with
 |none=>exact⟨false,0,[],170,rfl,.inl ⟨rfl,rfl,rfl,rfl,rfl⟩⟩
 |some y=>obtain⟨a,n,d⟩:=y;exact⟨a,n,d,0,rfl,.inr ⟨rfl,rfl⟩⟩
theorem QmT(lim:Nat)(H:Qab)(a:Bool)(n:Int)(d b:Tx):Ev (QaE code Qa3) 14 lim [lkD a n d,.d (.slice (b.map Qai))] H (boolD true) H:=by
 refine Fn.ev ?_
 refine QbU (pn rfl) rfl (show code 14=some c14 from rfl) rfl ?_;simp only[List.length_cons,List.length_nil,List.cons_append,List.nil_append,simprocAttr]
 obtain⟨K,hK⟩:∃K,H++ [lkO a n d]=K:=⟨_,rfl⟩
 have gK:K[H.length]? =some (lkO a n d):=by rw[←hK];exact Qdv _ _
 by_cases h1:5000<d.length
 ·have f1:((d.length:Int)>5000)=True:=eq_true (by omega)
  refine w_r (j_ hK (j_ gK (j_ f1 (@List.length_map.{0,0})))) ?_
  exact Qah (vs:= [boolD true]) rfl rfl ⟨rfl,rfl⟩
 have f1:((d.length:Int)>5000)=False:=eq_false (by omega)
 by_cases h2:5000<b.length
 ·have f2:((b.length:Int)>5000)=True:=eq_true (by omega)
  refine w_r (j_ hK (j_ gK (j_ f1 (j_ f2 (@List.length_map.{0,0}))))) ?_
  exact Qah (vs:= [boolD true]) rfl rfl ⟨rfl,rfl⟩
 have f2:((b.length:Int)>5000)=False:=eq_false (by omega)
 obtain⟨y,e,hy,_⟩:=encLV_eq (Qec a n d)
 obtain⟨a',n',d',e',hz,_⟩:=decLV_eq (QhL b)
 have p1:=QhK H.length K a n d
 have p2:=encR_ev H.length K a n d
 have p3:=QeJ H.length K b (by omega)
 rw[hy]at p1 p2
 rw[hz]at p3
 have lK:K.length=H.length+1:=by rw[←hK];simp
 obtain⟨M,k1,g1,s1,l1,t1⟩:=Qbo K (H.length+1) lK
 obtain⟨O,hO⟩:∃O:AObj,AObj.cells [boolD a',intD n',.d (.slice (d'.map Qai))]=O:=⟨_,rfl⟩
 have p4:=decR_ev H.length (M O) b (by omega)
 rw[hz]at p4
 obtain⟨M2,k2,g2,s2,l2,t2⟩:=Qbo (M O) (H.length+2) (l1 _)
 have u1:(M2 O)[H.length+1]? =some (.cells [boolD a',intD n',.d (.slice (d'.map Qai))]):=by rw[t2 _ _ _ (g1 O),hO]
 have u2:(M2 O)[H.length+2]? =some (.cells [boolD a',intD n',.d (.slice (d'.map Qai))]):=by rw[g2,hO]
 have p5:=Qkv H.length (M2 O) a' n' d' a' n' d'
 rw[decide_eq_true ⟨rfl,rfl,rfl⟩]at p5
 have p6:=QcL H.length (M2 O)
 have hby:=Qbs y
 have e1':(y==y)=true:=by simp
 have e2':(e==e)=true:=by simp
 have e3':(e'==e')=true:=by simp
 have hl1:H.length≤H.length+1:=by omega
 have hl2:H.length≤H.length+2:=by omega
 have l1O:=l1 O
 refine w_r (j_ hK (j_ gK (j_ f1 (j_ f2 (@List.length_map.{0,0}))))) ?_
 refine w_1 p1 gK ?_
 refine QlL ?_
 refine w_1 p2 gK ?_
 refine QlL ?_
 refine w_1 p3 (j_ k1 (j_ g1 (j_ s1 (j_ lK (j_ hl1 hO))))) ?_
 refine QlL ?_
 refine w_1 p4 (j_ k2 (j_ g2 (j_ s2 (j_ l1O (j_ hl2 hO))))) ?_
 refine QlL ?_
 refine w_2 p5 p6 (j_ u1 (j_ u2 (j_ hby (j_ e1' (j_ e2' e3'))))) ?_
 refine w_r trivial ?_
 exact Qah (vs:= [boolD true]) rfl rfl ⟨rfl,rfl⟩
theorem Qiy(lim:Nat)(H:Qab):Ev (QaE code Qa3) 51 lim [.d (.agg [.bool false,.int .i64 0,.slice []]),.agg [boolD false,intD 0,.fslice []]] H (boolD true) H:=by
 refine Fn.ev ?_
 refine QbU (pn rfl) rfl (show code 51=some c51 from rfl) rfl ?_;simp only[List.length_cons,List.length_nil,List.cons_append,List.nil_append,simprocAttr]
 obtain⟨K,hK⟩:∃K,H++ [lkO false 0 []]++ [.cells [boolD false,intD 0,.fslice []]]=K:=⟨_,rfl⟩
 have g1:K[H.length]? =some (.cells [boolD false,intD 0,.d (.slice [])]):=by rw[←hK];simp
 have g2:K[H.length+1]? =some (.cells [boolD false,intD 0,.fslice []]):=by rw[←hK];simp
 have hK':H++ [AObj.cells [boolD false,intD 0,.d (.slice [])]]++ [.cells [boolD false,intD 0,.fslice []]]=K:=hK
 have l1:(H++ [AObj.cells [boolD false,intD 0,.d (.slice [])]]).length=H.length+1:=by simp
 have hb1:bytesOf []=some []:=rfl
 refine w_r (j_ hK' (j_ g1 (j_ g2 (j_ l1 hb1)))) ?_
 exact Qah (vs:= [boolD true]) rfl rfl ⟨rfl,rfl⟩
theorem back_law(lim:Nat)(H:Qab)(a:Bool)(n:Int)(d b:Tx)(hn:n≤9223372036854775807):Ev (QaE code Qa3) 15 lim [lkD a n d,.d (.slice (b.map Qai))] H (boolD true) H:=by
 refine Fn.ev ?_
 refine QbU (pn rfl) rfl (show code 15=some c15 from rfl) rfl ?_;simp only[List.length_cons,List.length_nil,List.cons_append,List.nil_append,simprocAttr]
 obtain⟨K,hK⟩:∃K,H++ [lkO a n d]=K:=⟨_,rfl⟩
 have gK:K[H.length]? =some (lkO a n d):=by rw[←hK];exact Qdv _ _
 have lK:K.length=H.length+1:=by rw[←hK];simp
 by_cases h1:5000<d.length
 ·have f1:((d.length:Int)>5000)=True:=eq_true (by omega)
  refine w_r (j_ hK (j_ gK (j_ f1 (@List.length_map.{0,0})))) ?_
  exact Qah (vs:= [boolD true]) rfl rfl ⟨rfl,rfl⟩
 have f1:((d.length:Int)>5000)=False:=eq_false (by omega)
 by_cases h2:5000<b.length
 ·have f2:((b.length:Int)>5000)=True:=eq_true (by omega)
  refine w_r (j_ hK (j_ gK (j_ f1 (j_ f2 (@List.length_map.{0,0}))))) ?_
  exact Qah (vs:= [boolD true]) rfl rfl ⟨rfl,rfl⟩
 have f2:((b.length:Int)>5000)=False:=eq_false (by omega)
 have p1:=QhK H.length K a n d
 refine w_r (j_ hK (j_ gK (j_ f1 (j_ f2 (@List.length_map.{0,0}))))) ?_
 cases he:Qec a n d with
 |none=>
  rw[he]at p1
  refine w_1 p1 gK ?_
  refine w_r trivial ?_
  cases hd:QhL b with
  |none=>
   have p3:=QeJ H.length K b (by omega)
   rw[hd]at p3
   obtain⟨M,k1,g1,s1,l1,t1⟩:=Qbo K (H.length+1) lK
   have p5:=Qiy H.length (M (.cells [boolD false,intD 0,.d (.slice [])]))
   have p6:=QcL H.length (M (.cells [boolD false,intD 0,.d (.slice [])]))
   have hl1:H.length≤H.length+1:=by omega
   have hL:=lK
   (apply Qi3;focus(refine Evl.call (X:=(QaE code Qa3)) (p3) (Evl.all fun k e1=> ?_);simp(maxSteps:=100000000) only[zz,zd,simprocAttr,k1,g1,s1,hL,hl1,List.map_nil,e1];(first|done|with_reducible exact rfl)))<;>(try simp only[zp,simprocAttr])
   refine w_r trivial ?_
   refine w_2 p5 p6 g1 ?_
   refine w_r trivial ?_
   exact Qah (vs:= [boolD true]) rfl rfl ⟨rfl,rfl⟩
  |some l=>
   obtain⟨a',n',d'⟩:=l
   have p3:=QeJ H.length K b (by omega)
   rw[hd]at p3
   have hL:=lK
   obtain⟨M,k1,g1,s1,l1,t1⟩:=Qbo K (H.length+1) hL
   obtain⟨O,hO⟩:∃O:AObj,AObj.cells [boolD a',intD n',.d (.slice (d'.map Qai))]=O:=⟨_,rfl⟩
   have u1:(M O)[H.length+1]? =some (.cells [boolD a',intD n',.d (.slice (d'.map Qai))]):=by rw[g1,hO]
   have p4:=QhK H.length (M O) a' n' d'
   rw[Qnk hd]at p4
   have p6:=QcL H.length (M O)
   have hl1:H.length≤H.length+1:=by omega
   have hby:=Qbs b
   have e1':(b==b)=true:=by simp
   refine w_1 p3 (j_ k1 (j_ g1 (j_ s1 (j_ hL (j_ hl1 hO))))) ?_
   refine w_r trivial ?_
   refine w_1 p4 u1 ?_
   refine QlL ?_
   refine w_1 p6 (j_ hby e1') ?_
   refine w_r trivial ?_
   exact Qah (vs:= [boolD true]) rfl rfl ⟨rfl,rfl⟩
 |some y=>
  rw[he]at p1
  have p2:=QeJ H.length K y (by
   unfold Qec at he
   split at he
   ·cases he
   ·injection he with he;rw[←he];simp[Qdm];omega)
  rw[enc_dec hn he]at p2
  obtain⟨M0,k0,g0,s0,l0,t0⟩:=Qbo K (H.length+1) lK
  have hl0:H.length≤H.length+1:=by omega
  obtain⟨P,hP⟩:∃P:AObj,AObj.cells [boolD a,intD n,.d (.slice (d.map Qai))]=P:=⟨_,rfl⟩
  have v0:(M0 P)[H.length]? =some (.cells [boolD a,intD n,.d (.slice (d.map Qai))]):=t0 _ P _ gK
  have v1:(M0 P)[H.length+1]? =some (.cells [boolD a,intD n,.d (.slice (d.map Qai))]):=by rw[g0,hP]
  have p5:=Qkv H.length (M0 P) a n d a n d
  rw[decide_eq_true ⟨rfl,rfl,rfl⟩]at p5
  refine w_1 p1 gK ?_
  refine w_r trivial ?_
  refine w_1 p2 (j_ k0 (j_ g0 (j_ s0 (j_ lK (j_ hl0 hP))))) ?_
  refine QlL ?_
  refine w_1 p5 (j_ v0 v1) ?_
  refine w_r trivial ?_
  cases hd:QhL b with
  |none=>
   have p3:=QeJ H.length (M0 P) b (by omega)
   rw[hd]at p3
   obtain⟨M,k1,g1,s1,l1,t1⟩:=Qbo (M0 P) (H.length+2) (l0 P)
   have p5:=Qiy H.length (M (.cells [boolD false,intD 0,.d (.slice [])]))
   have p6:=QcL H.length (M (.cells [boolD false,intD 0,.d (.slice [])]))
   have hl1:H.length≤H.length+2:=by omega
   have hL:=(l0 P)
   (apply Qi3;focus(refine Evl.call (X:=(QaE code Qa3)) (p3) (Evl.all fun k e1=> ?_);simp(maxSteps:=100000000) only[zz,zd,simprocAttr,k1,g1,s1,hL,hl1,List.map_nil,e1];(first|done|with_reducible exact rfl)))<;>(try simp only[zp,simprocAttr])
   refine w_r trivial ?_
   refine w_2 p5 p6 g1 ?_
   refine w_r trivial ?_
   exact Qah (vs:= [boolD true]) rfl rfl ⟨rfl,rfl⟩
  |some l=>
   obtain⟨a',n',d'⟩:=l
   have p3:=QeJ H.length (M0 P) b (by omega)
   rw[hd]at p3
   have hL:=(l0 P)
   obtain⟨M,k1,g1,s1,l1,t1⟩:=Qbo (M0 P) (H.length+2) hL
   obtain⟨O,hO⟩:∃O:AObj,AObj.cells [boolD a',intD n',.d (.slice (d'.map Qai))]=O:=⟨_,rfl⟩
   have u1:(M O)[H.length+2]? =some (.cells [boolD a',intD n',.d (.slice (d'.map Qai))]):=by rw[g1,hO]
   have p4:=QhK H.length (M O) a' n' d'
   rw[Qnk hd]at p4
   have p6:=QcL H.length (M O)
   have hl1:H.length≤H.length+2:=by omega
   have hby:=Qbs b
   have e1':(b==b)=true:=by simp
   refine w_1 p3 (j_ k1 (j_ g1 (j_ s1 (j_ hL (j_ hl1 hO))))) ?_
   refine w_r trivial ?_
   refine w_1 p4 u1 ?_
   refine QlL ?_
   refine w_1 p6 (j_ hby e1') ?_
   refine w_r trivial ?_
   exact Qah (vs:= [boolD true]) rfl rfl ⟨rfl,rfl⟩
theorem dec_at(s:List UInt8)(i:Nat):dec s i=decodeN (s.length-i) (by' s i) (by' s (i+1)) (by' s (i+2)) (by' s (i+3)):=by
 have e:∀j,((⟨s.toArray⟩:ByteArray).get! j).toNat=by' s j:=fun j=>by
  unfold by'
  show(s.toArray[j]!).toNat=_
  rw[Array.getElem!_eq_getD]
  simp only[Array.getD_eq_getD_getElem?,List.getElem?_toArray]
  cases s[j]? <;>rfl
 unfold dec
 rw[decode_at]
 simp only[e]
 rfl
theorem Qnl(s:List UInt8)(i:Nat):dec s i=dc (s.drop i):=by
 rw[dec_at];unfold dc;simp only[by_drop,List.length_drop,Nat.add_zero]
theorem Qjd:tab0=(List.range 256).map fun b=> .int .u8 (firstT b:Nat):=by kernel_rfl
theorem tab0_get{b:Nat}(h:b<256):(tab0.drop b)[0]? =some (.int .u8 (firstT b:Nat)):=by
 rw[Qjd,List.getElem?_drop,Nat.add_zero,List.getElem?_map,List.getElem?_range h];rfl
theorem QlZ{k:Nat}(h:k<256):tab0[k]? =some (.int .u8 (firstT k:Nat)):=by
 have:=tab0_get h
 rw[List.getElem?_drop,Nat.add_zero]at this;exact this
theorem tab1_eq:tab1=(List.range 16).flatMap fun i=> [.int .u8 (accLo i:Nat),.int .u8 (accHi i:Nat)]:=by kernel_rfl
theorem pairs_at{f g:Nat→D}:∀(n i:Nat),i<n→((List.range n).flatMap fun i=> [f i,g i])[2*i]? =some (f i)∧((List.range n).flatMap fun i=> [f i,g i])[2*i+1]? =some (g i):=by
 have hlen:∀n,((List.range n).flatMap fun i=> [f i,g i]).length=2*n:=fun n=>by
  induction n with
  |zero=>rfl
  |succ n ih=>rw[List.range_succ,List.flatMap_append,List.length_append,ih];simp;omega
 intro n
 induction n with
 |zero=>intro i hi;omega
 |succ n ih=>
  intro i hi
  rw[List.range_succ,List.flatMap_append]
  by_cases h:i<n
  ·obtain⟨a,b⟩:=ih i h
   rw[List.getElem?_append_left (by rw[hlen];omega),List.getElem?_append_left (by rw[hlen];omega)]
   exact⟨a,b⟩
  ·obtain rfl:i=n:=by omega
   rw[List.getElem?_append_right (by rw[hlen];omega),List.getElem?_append_right (by rw[hlen];omega),hlen,Nat.sub_self,show 2*i+1-2*i=1 from by omega]
   exact⟨rfl,rfl⟩
theorem Qhn(i:Nat)(h:i<16):tab1[2*i]? =some (.int .u8 (accLo i:Nat))∧tab1[2*i+1]? =some (.int .u8 (accHi i:Nat)):=by
 rw[tab1_eq];exact pairs_at 16 i h
def Pow10(w:World):Prop:=∀k,k<20→w.cell? ⟨3,k,none⟩=some (.int .u64 ((10^k:Nat):Int))
theorem tabOK_of{w:World}(h:Lib.Utf8Tabs 0 1 w)(h2:Pow10 w):QlH w:=by
 intro n cs hn
 obtain⟨h0,h1⟩:=h
 simp only[Tab.tab]at hn
 by_cases n0:n=0
 ·subst n0
  rw[if_pos rfl]at hn
  cases hn
  have hl:tab0.length=256:=by rw[Qjd];simp
  refine VR.pref tab0 0 0 (fun k=> .int .u8 (firstT k:Nat)) ?_ (fun k hk=> ?_) (fun k c hk=> ?_)
  ·intro c hc
   rw[Qjd]at hc
   obtain⟨_,_,rfl⟩:=List.mem_map.1 hc
   rfl
  ·rw[Nat.zero_add]
   have:=h0 k (by omega)
   exact⟨Qch this,this⟩
  ·have hk2:k<256:=by have:=(List.getElem?_eq_some_iff.1 hk).1;omega
   rw[QlZ hk2]at hk
   cases hk
   exact .int _ _
 ·rw[if_neg n0]at hn
  by_cases n1:n=1
  ·subst n1
   rw[if_pos rfl]at hn
   cases hn
   have hl:tab1.length=32:=rfl
   refine VR.pref tab1 1 0 (fun k=>if k % 2=0 then .int .u8 (accLo (k/2))else .int .u8 (accHi (k/2))) ?_ (fun k hk=> ?_) (fun k c hk=> ?_)
   ·intro c hc
    have:tab1.all D.isCell=true:=rfl
    exact List.all_eq_true.1 this c hc
   ·rw[Nat.zero_add]
    have:=h1 (k/2) (by omega)
    by_cases e:k % 2=0
    ·simp only[if_pos e]
     have e2:2*(k/2)=k:=by omega
     rw[e2]at this
     exact⟨Qch this.1,this.1⟩
    ·simp only[if_neg e]
     have e2:2*(k/2)+1=k:=by omega
     rw[e2]at this
     exact⟨Qch this.2,this.2⟩
   ·have hk2:k<32:=by have:=(List.getElem?_eq_some_iff.1 hk).1;omega
    have:=Qhn (k/2) (by omega)
    by_cases e:k % 2=0
    ·simp only[if_pos e]
     have e2:2*(k/2)=k:=by omega
     simp only[e2]at this
     rw[this.1]at hk;cases hk;exact .int _ _
    ·simp only[if_neg e]
     have e2:2*(k/2)+1=k:=by omega
     simp only[e2]at this
     rw[this.2]at hk;cases hk;exact .int _ _
  ·rw[if_neg n1]at hn
   by_cases n3:n=3
   ·subst n3
    rw[if_pos rfl]at hn
    cases hn
    have hl:tab3.length=20:=rfl
    refine VR.pref tab3 3 0 (fun k=> .int .u64 ((10^k:Nat):Int)) ?_ (fun k hk=> ?_) (fun k c hk=> ?_)
    ·intro c hc
     obtain⟨_,_,rfl⟩:=List.mem_map.1 hc
     rfl
    ·rw[Nat.zero_add]
     have:=h2 k (by omega)
     exact⟨Qch this,this⟩
    ·have hk2:k<20:=by have:=(List.getElem?_eq_some_iff.1 hk).1;omega
     unfold tab3 at hk
     rw[List.getElem?_map,List.getElem?_range hk2]at hk
     cases hk;exact .int _ _
   ·rw[if_neg n3]at hn;cases hn
def ren:Go.Shelf.Ren:=⟨fun x=>x,fun t=>if t=119 then 153 else if t=138 then 155 else if t=139 then 156 else t,fun g=>g-3⟩
theorem types:U8Types Tryz.prog ren:=⟨by kernel_rfl,by kernel_rfl,by kernel_rfl,by kernel_rfl⟩
theorem extra:U8Extra Tryz.prog ren:=⟨by kernel_rfl,by kernel_rfl,by kernel_rfl,by kernel_rfl,by kernel_rfl,by kernel_rfl,by kernel_rfl⟩
theorem first_eq:Go.Pinned.utf8First=firstData:=by kernel_rfl
theorem QnB:(Rows.laid_unicode_utf8_acceptRanges:DataW Unit)=acceptData:=by kernel_rfl
def Qfa:List (String×DataW Unit):= [("math/bits.deBruijn32tab",Rows.laid_math_bits_deBruijn32tab),("math/bits.deBruijn64tab",Rows.laid_math_bits_deBruijn64tab),("internal/strconv.uint64pow10",Rows.laid_internal_strconv_uint64pow10),("unicode/utf8.acceptRanges",Rows.laid_unicode_utf8_acceptRanges),("unicode/utf8.first",Rows.laid_unicode_utf8_first)]
theorem pow_eq:(Rows.laid_internal_strconv_uint64pow10:DataW Unit)=tabData .u64 pow10Tab:=by kernel_rfl
theorem pow_of{w:World}(h:VarReads Tryz.prog w "internal/strconv.uint64pow10" (tabData .u64 pow10Tab)):Pow10 w:=by
 obtain⟨g,t,cs,fuel,p,h1,h2,h3,h4⟩:=h
 have e1:Tryz.prog.globalNamed "internal/strconv.uint64pow10" =some 3:=by kernel_rfl
 rw[e1]at h1
 cases h1
 have e2:(Tryz.prog.globals[3]?).map (·.type)=some 220:=by kernel_rfl
 rw[e2]at h2
 cases h2
 have hc:=cells_of_tab (n:=20) (e:=175) (by kernel_rfl) (by kernel_rfl) (by kernel_rfl) (by kernel_rfl) h4
 have hti:TabIs Tryz.prog w "internal/strconv.uint64pow10" .u64 pow10Tab:=by
  unfold TabIs
  rw[h3,←hc]
 intro k hk
 have:=hti.cell e1 k (by rw[pow10Tab_length];exact hk)
 rwa [pow10Tab_at k hk]at this
theorem QeS{w:World}(h:laidMet Tryz.prog Qfa w):QlH w:=by
 have h5:=Lib.laidMet.reads h (n:= "internal/strconv.uint64pow10") (d:=Rows.laid_internal_strconv_uint64pow10) (by simp[Qfa])
 rw[pow_eq]at h5
 refine tabOK_of ?_ (pow_of h5)
 have h3:=Lib.laidMet.reads h (n:= "unicode/utf8.first") (d:=Rows.laid_unicode_utf8_first) (by simp[Qfa])
 have h4:=Lib.laidMet.reads h (n:= "unicode/utf8.acceptRanges") (d:=Rows.laid_unicode_utf8_acceptRanges) (by simp[Qfa])
 have e:(Rows.laid_unicode_utf8_first:DataW Unit)=firstData:=first_eq
 rw[e]at h3
 rw[QnB]at h4
 exact utf8Tabs_of_readsT types extra h3 h4
end Go.Proofs.YtfoiaojdnmpgmaaGreatDoor
namespace Go.Abs
open Go.RowKit
section
variable [Tab] [Dfr] {P:Program} {tk:FuncId→Nat→Bool} {pf:FuncId→Bool} {X:Nat→Qa0} {XP:Nat→QeP} {g:Gh} {w:World} {st:St} {a:Act} {Q:Exit→Act→World→Prop} {lim:Nat}
theorem W_wp(hS:EnvS P pf X XP){kp:List Nat}{c:Code}{cc:CCode}(hc:Qac P tk kp c=some cc)(hinv:Inv g st a w)(hlim:lim≤st.H.length){Qa:AExit→St→Prop}
  (hW:W X lim cc st Qa)(hq:∀x st' g' a' w',Qa x st'→WF g w g' w'→Inv g' st' a' w'→Q x.exit' a' w'):c.wp P Q a w:=by
 obtain⟨e,st',⟨k0,h⟩,hqa⟩:=QnD hW
 exact Qao (hS.e k0) (QeI hS.mx (hS.e k0)) (fun body s r h=>⟨k0,h⟩) c cc hc hinv hlim (h k0 k0 (Nat.le_refl _) (Nat.le_refl _)) fun g' a' w' h1 h2 _=>hq e st' g' a' w' hqa h1 h2
theorem Qel(hS:EnvS P pf X XP){kp:List Nat}{c d:Code}{cc:CCode}(hc:Qac P tk kp c=some cc)(hinv:Inv g st a w){Qa:St→Prop}
  (hW:W X 0 cc st fun e s=>e= .normal∧Qa s)(hq:∀st' g' a' w',Qa st'→WF g w g' w'→Inv g' st' a' w'→d.wp P Q a' w'):(Code.seq c d).wp P Q a w:=by
 refine wp_seq (W_wp hS hc hinv (Nat.zero_le _) hW ?_)
 rintro x st' g' a' w' ⟨rfl,h⟩ h1 h2
 exact hq _ _ _ _ h h1 h2
end
end Go.Abs
namespace Go.Proofs.YtfoiaojdnmpgmaaGreatDoor
open Go Go.Abs
def QaJ:Code→List Nat→Code
 |c,[]=>c
 |.seq a _,0::l=>QaJ a l
 |.cond _ a _,0::l=>QaJ a l
 |.block _ a,0::l=>QaJ a l
 |.loop a,0::l=>QaJ a l
 |.scope a,0::l=>QaJ a l
 |.seq _ b,_::l=>QaJ b l
 |.cond _ _ b,_::l=>QaJ b l
 |c,_=>c
noncomputable def b41:Code:=(Tryz.f167.body).getD .skip
noncomputable def p41_0:Code:=QaJ b41 [0]
def q41_0:CCode:= .region [⟨some 2,.move (.c (.d (.str []))),none,[]⟩] none []
theorem k41_0:Qac Tryz.prog Qag [18,39,50,2,0,3,4] p41_0=some q41_0:=by kernel_rfl
noncomputable def p41_1:Code:=QaJ b41 [1,0]
def q41_1:CCode:= .region [⟨some 5,.move (.t 0),none,[]⟩,⟨some 6,.call 190 [.t 5,.c (.d (.int (.u8) 34))],none,[]⟩] none [5,6]
theorem k41_1:Qac Tryz.prog Qag [18,39,50,2,0,3,4] p41_1=some q41_1:=by kernel_rfl
noncomputable def p41_2:Code:=QaJ b41 [1,1,0]
def q41_2:CCode:= .region [⟨some 3,.new [.d (.nilptr),.fslice []],none,[]⟩] none []
noncomputable def p41_3:Code:=QaJ b41 [1,1,1,0,0,0,0]
def q41_3:CCode:= .region [⟨some 7,.move (.t 0),none,[]⟩,⟨some 8,.call 163 [.t 7],none,[]⟩,⟨some 4,.move (.t 8),none,[8]⟩] none [7,8]
theorem k41_3:Qac Tryz.prog Qag [18,39,50,2,0,3,4] p41_3=some q41_3:=by kernel_rfl
noncomputable def p41_6:Code:=QaJ b41 [1,1,1,0,0,0,1,0,0]
def q41_6:CCode:= .region [⟨some 19,.move (.t 0),none,[]⟩,⟨some 20,.nilCheck (.t 19),none,[]⟩,⟨some 21,.fieldAddr 1 (.t 20),none,[]⟩,⟨some 22,.load false 1 (.t 21),none,[]⟩,⟨some 23,.move (.t 0),none,[]⟩,⟨some 24,.nilCheck (.t 23),none,[]⟩,⟨some 25,.fieldAddr 0 (.t 24),none,[]⟩,⟨some 26,.load false 1 (.t 25),none,[]⟩,⟨some 27,.len (.str) (.t 26),none,[]⟩,⟨some 28,.bin (.eql) (.none) (.t 22) (.t 27),none,[]⟩,⟨some 29,.move (.t 28),none,[]⟩,⟨some 30,.move (.t 4),some (29,false),[]⟩,⟨some 31,.bin (.lss) (.none) (.t 30) (.c (.d (.int (.u8) 32))),some (29,false),[]⟩,⟨some 32,.pick (.t 29) (.c (boolD true)) (.t 31),none,[]⟩,⟨some 18,.move (.t 32),none,[32]⟩] none [19,20,21,22,23,24,25,26,27,28,29,30,31,32]
theorem k41_6:Qac Tryz.prog Qag [18,39,50,2,0,3,4] p41_6=some q41_6:=by kernel_rfl
noncomputable def p41_7:Code:=QaJ b41 [1,1,1,0,0,0,1,0,1,0]
def q41_7:CCode:= .region [⟨some 33,.move (.t 0),none,[]⟩,⟨some 34,.move (.t 0),none,[]⟩,⟨some 35,.nilCheck (.t 34),none,[]⟩,⟨some 36,.fieldAddr 1 (.t 35),none,[]⟩,⟨some 37,.load false 1 (.t 36),none,[]⟩,⟨some 38,.call 119 [.t 33,.c (.d (.int (.i64) 11)),.t 37],none,[]⟩] none [33,34,35,36,37,38]
theorem k41_7:Qac Tryz.prog Qag [18,39,50,2,0,3,4] p41_7=some q41_7:=by kernel_rfl
noncomputable def p41_8:Code:=QaJ b41 [1,1,1,0,0,0,1,0,1,1,0]
def q41_8:CCode:= .region [⟨some 40,.move (.t 4),none,[]⟩,⟨some 41,.bin (.eql) (.none) (.t 40) (.c (.d (.int (.u8) 34))),none,[]⟩,⟨some 39,.move (.t 41),none,[41]⟩] none [40,41]
theorem k41_8:Qac Tryz.prog Qag [18,39,50,2,0,3,4] p41_8=some q41_8:=by kernel_rfl
noncomputable def p41_9:Code:=QaJ b41 [1,1,1,0,0,0,1,0,1,1,1,0,0]
def q41_9:CCode:= .region [⟨some 42,.move (.t 0),none,[]⟩,⟨some 43,.nilCheck (.t 42),none,[]⟩,⟨some 44,.fieldAddr 1 (.t 43),none,[]⟩,⟨some 45,.load false 1 (.t 44),none,[]⟩,⟨some 46,.bin (.add) (.none) (.t 45) (.c (.d (.int (.i64) 1))),none,[]⟩,⟨some 47,.nilCheck (.t 42),none,[]⟩,⟨some 48,.fieldAddr 1 (.t 47),none,[]⟩,⟨none,.store 1 (.t 48) (.t 46),none,[46]⟩] none [42,43,44,45,46,47,48]
theorem k41_9:Qac Tryz.prog Qag [18,39,50,2,0,3,4] p41_9=some q41_9:=by kernel_rfl
noncomputable def QcX:Code:=QaJ b41 [1,1,1,0,0,0,1,0,1,1,1,0,1,0]
def q41_10:CCode:= .region [⟨some 49,.call 191 [.t 3],none,[]⟩,⟨some 2,.move (.t 49),none,[49]⟩] none [49]
noncomputable def Qmu:Code:=QaJ b41 [1,1,1,0,0,0,1,0,1,1,1,1,0]
def Qma:CCode:= .region [⟨some 51,.move (.t 4),none,[]⟩,⟨some 52,.bin (.eql) (.none) (.t 51) (.c (.d (.int (.u8) 92))),none,[]⟩,⟨some 50,.move (.t 52),none,[52]⟩] none [51,52]
theorem k41_11:Qac Tryz.prog Qag [18,39,50,2,0,3,4] Qmu=some Qma:=by kernel_rfl
noncomputable def Qmt:Code:=QaJ b41 [1,1,1,0,0,0,1,0,1,1,1,1,1,0,0]
def Ql9:CCode:= .region [⟨some 53,.move (.t 0),none,[]⟩,⟨some 54,.nilCheck (.t 53),none,[]⟩,⟨some 55,.fieldAddr 1 (.t 54),none,[]⟩,⟨some 56,.load false 1 (.t 55),none,[]⟩,⟨some 57,.bin (.add) (.none) (.t 56) (.c (.d (.int (.i64) 1))),none,[]⟩,⟨some 58,.nilCheck (.t 53),none,[]⟩,⟨some 59,.fieldAddr 1 (.t 58),none,[]⟩,⟨none,.store 1 (.t 59) (.t 57),none,[57]⟩] none [53,54,55,56,57,58,59]
theorem k41_12:Qac Tryz.prog Qag [18,39,50,2,0,3,4] Qmt=some Ql9:=by kernel_rfl
noncomputable def Qbz:Code:=QaJ b41 [1,1,1,0,0,0,1,0,1,1,1,1,1,0,1]
def Ql8:CCode:= .region [⟨some 60,.move (.t 0),none,[]⟩,⟨some 61,.call 193 [.t 60],none,[]⟩,⟨some 62,.call 192 [.t 3,.t 61],none,[]⟩] none [60,61,62]
theorem k41_13:Qac Tryz.prog Qag [18,39,50,2,0,3,4] Qbz=some Ql8:=by kernel_rfl
noncomputable def QfN:Code:=QaJ b41 [1,1,1,0,0,0,1,0,1,1,1,1,1,1,0]
def q41_4:CCode:= .region [⟨some 9,.move (.t 4),none,[]⟩,⟨some 10,.call 194 [.t 3,.t 9],none,[]⟩] none [9,10]
noncomputable def p41_5:Code:=QaJ b41 [1,1,1,0,0,0,1,0,1,1,1,1,1,1,1]
def q41_5:CCode:= .region [⟨some 11,.move (.t 0),none,[]⟩,⟨some 12,.nilCheck (.t 11),none,[]⟩,⟨some 13,.fieldAddr 1 (.t 12),none,[]⟩,⟨some 14,.load false 1 (.t 13),none,[]⟩,⟨some 15,.bin (.add) (.none) (.t 14) (.c (.d (.int (.i64) 1))),none,[]⟩,⟨some 16,.nilCheck (.t 11),none,[]⟩,⟨some 17,.fieldAddr 1 (.t 16),none,[]⟩,⟨none,.store 1 (.t 17) (.t 15),none,[15]⟩] none [11,12,13,14,15,16,17]
theorem k41_5:Qac Tryz.prog Qag [18,39,50,2,0,3,4] p41_5=some q41_5:=by kernel_rfl
noncomputable def b10:Code:=(Tryz.f66.body).getD .skip
noncomputable def p10_0:Code:=QaJ b10 [0]
def q10_0:CCode:= .region [⟨some 2,.new [.d (.int (.i64) 0),.d (.int (.i64) 0),.d (.str []),.fslice [],.fslice []],none,[]⟩,⟨some 3,.new [.d (.int (.i64) 0)],none,[]⟩,⟨some 4,.new [.d (.int (.i64) 0)],none,[]⟩] none []
theorem k10_0:Qac Tryz.prog Qag [9,21,40,2,3,4,0,5,6] p10_0=some q10_0:=by kernel_rfl
noncomputable def p10_1:Code:=QaJ b10 [1,0,0]
def q10_1:CCode:= .region [⟨some 7,.move (.t 0),none,[]⟩,⟨some 8,.len (.sl) (.t 7),none,[]⟩,⟨some 9,.bin (.gtr) (.none) (.t 8) (.c (.d (.int (.i64) 16384))),none,[]⟩] none [7,8]
theorem k10_1:Qac Tryz.prog Qag [9,21,40,2,3,4,0,5,6] p10_1=some q10_1:=by kernel_rfl
noncomputable def p10_2:Code:=QaJ b10 [1,0,1,0,0]
def q10_2:CCode:= .region [⟨some 10,.build [.d (.int (.i64) 0),.d (.int (.i64) 0),.d (.str []),.fslice [],.fslice []] [],none,[]⟩,⟨none,.store 5 (.t 2) (.t 10),none,[10]⟩,⟨none,.store 1 (.t 3) (.c (.d (.int (.i64) 13))),none,[]⟩,⟨none,.store 1 (.t 4) (.c (.d (.int (.i64) 16384))),none,[]⟩] none [10]
theorem k10_2:Qac Tryz.prog Qag [9,21,40,2,3,4,0,5,6] p10_2=some q10_2:=by kernel_rfl
noncomputable def p10_3:Code:=QaJ b10 [1,1,0]
def q10_3:CCode:= .region [⟨some 11,.move (.t 0),none,[]⟩,⟨some 12,.toStr (.t 11),none,[]⟩,⟨some 13,.build [.d (.str []),.d (.int (.i64) 0)] [(0,1,.t 12)],none,[]⟩,⟨some 14,.box (.t 13),none,[]⟩,⟨some 5,.move (.t 14),none,[14]⟩] none [11,12,13,14]
theorem k10_3:Qac Tryz.prog Qag [9,21,40,2,3,4,0,5,6] p10_3=some q10_3:=by kernel_rfl
noncomputable def p10_4:Code:=QaJ b10 [1,1,1,0,0]
def q10_4:CCode:= .region [⟨some 15,.move (.t 5),none,[]⟩,⟨some 16,.nilCheck (.t 15),none,[]⟩,⟨some 17,.fieldAddr 0 (.t 16),none,[]⟩,⟨some 18,.load false 1 (.t 17),none,[]⟩,⟨some 19,.call 115 [.t 18],none,[]⟩,⟨some 6,.move (.t 19),none,[19]⟩] none [15,16,17,18,19]
theorem k10_4:Qac Tryz.prog Qag [9,21,40,2,3,4,0,5,6] p10_4=some q10_4:=by kernel_rfl
noncomputable def p10_5:Code:=QaJ b10 [1,1,1,0,1,0]
def q10_5:CCode:= .region [⟨some 20,.move (.t 6),none,[]⟩,⟨some 21,.bin (.geq) (.none) (.t 20) (.c (.d (.int (.i64) 0))),none,[]⟩] none [20]
theorem k10_5:Qac Tryz.prog Qag [9,21,40,2,3,4,0,5,6] p10_5=some q10_5:=by kernel_rfl
noncomputable def p10_6:Code:=QaJ b10 [1,1,1,0,1,1,0,0]
def q10_6:CCode:= .region [⟨some 22,.build [.d (.int (.i64) 0),.d (.int (.i64) 0),.d (.str []),.fslice [],.fslice []] [],none,[]⟩,⟨some 23,.move (.t 6),none,[6]⟩,⟨none,.store 5 (.t 2) (.t 22),none,[22]⟩,⟨none,.store 1 (.t 3) (.c (.d (.int (.i64) 10))),none,[]⟩,⟨none,.store 1 (.t 4) (.t 23),none,[23]⟩] none [22,23]
theorem k10_6:Qac Tryz.prog Qag [9,21,40,2,3,4,0,5,6] p10_6=some q10_6:=by kernel_rfl
noncomputable def QfO:Code:=QaJ b10 [1,1,1,1,0]
noncomputable def p10_8:Code:=QaJ b10 [1,1,1,1,1,0]
def q10_8:CCode:= .region [⟨some 25,.move (.t 5),none,[]⟩,⟨some 26,.call 117 [.t 25],none,[]⟩] none [25,26]
theorem k10_8:Qac Tryz.prog Qag [9,21,40,2,3,4,0,5,6] p10_8=some q10_8:=by kernel_rfl
noncomputable def QdZ:Code:=QaJ b10 [1,1,1,1,1,1,0]
def q10_9:CCode:= .region [⟨some 27,.move (.t 5),none,[]⟩,⟨some 28,.call 118 [.t 27,.c (.d (.int (.i64) 1))],none,[]⟩,⟨none,.store 5 (.t 2) (.t 28),none,[28]⟩] none [27,28]
theorem k10_9:Qac Tryz.prog Qag [9,21,40,2,3,4,0,5,6] QdZ=some q10_9:=by kernel_rfl
noncomputable def Qkm:Code:=QaJ b10 [1,1,1,1,1,1,1,0]
def Qmk:CCode:= .region [⟨some 29,.move (.t 5),none,[]⟩,⟨some 30,.call 117 [.t 29],none,[]⟩] none [29,30]
theorem k10_10:Qac Tryz.prog Qag [9,21,40,2,3,4,0,5,6] Qkm=some Qmk:=by kernel_rfl
noncomputable def Qkl:Code:=QaJ b10 [1,1,1,1,1,1,1,1,0,0]
def Qmj:CCode:= .region [⟨some 31,.move (.t 5),none,[]⟩,⟨some 32,.nilCheck (.t 31),none,[]⟩,⟨some 33,.fieldAddr 1 (.t 32),none,[]⟩,⟨some 34,.load false 1 (.t 33),none,[]⟩,⟨some 35,.move (.t 5),none,[]⟩,⟨some 36,.nilCheck (.t 35),none,[]⟩,⟨some 37,.fieldAddr 0 (.t 36),none,[]⟩,⟨some 38,.load false 1 (.t 37),none,[]⟩,⟨some 39,.len (.str) (.t 38),none,[]⟩,⟨some 40,.bin (.lss) (.none) (.t 34) (.t 39),none,[]⟩] none [31,32,33,34,35,36,37,38,39]
theorem k10_11:Qac Tryz.prog Qag [9,21,40,2,3,4,0,5,6] Qkl=some Qmj:=by kernel_rfl
noncomputable def Qbl:Code:=QaJ b10 [1,1,1,1,1,1,1,1,0,1,0]
def q10_12:CCode:= .region [⟨some 41,.move (.t 5),none,[]⟩,⟨some 42,.move (.t 5),none,[]⟩,⟨some 43,.nilCheck (.t 42),none,[]⟩,⟨some 44,.fieldAddr 1 (.t 43),none,[]⟩,⟨some 45,.load false 1 (.t 44),none,[]⟩,⟨some 46,.call 119 [.t 41,.c (.d (.int (.i64) 16)),.t 45],none,[]⟩] none [41,42,43,44,45,46]
noncomputable def Qkk:Code:=QaJ b10 [1,1,1,1,1,1,1,1,1,0]
def Qmi:CCode:= .region [⟨some 47,.load true 5 (.t 2),none,[]⟩,⟨some 48,.call 95 [.t 47],none,[]⟩,⟨none,.store 5 (.t 2) (.t 48),none,[48]⟩,⟨none,.store 1 (.t 3) (.c (.d (.int (.i64) 0))),none,[]⟩,⟨none,.store 1 (.t 4) (.c (.d (.int (.i64) 0))),none,[]⟩] none [47,48]
theorem k10_13:Qac Tryz.prog Qag [9,21,40,2,3,4,0,5,6] Qkk=some Qmi:=by kernel_rfl
noncomputable def b23:Code:=(Tryz.f116.body).getD .skip
noncomputable def p23_0:Code:=QaJ b23 [0]
noncomputable def p23_3:Code:=QaJ b23 [1,0,0]
def Qmb:CCode:= .region [⟨some 8,.bin (.eql) (.iface) (.t 6) (.c (.niliface)),none,[]⟩] none []
theorem k23_3:Qac Tryz.prog Qag [8,10,6,11,4,5,0,1,2] p23_3=some Qmb:=by kernel_rfl
noncomputable def p23_4:Code:=QaJ b23 [1,0,1,0]
def q23_4:CCode:= .region [⟨some 3,.move (.t 6),none,[6]⟩] none [3]
theorem k23_4:Qac Tryz.prog Qag [8,10,6,11,4,5,0,1,2] p23_4=some q23_4:=by kernel_rfl
noncomputable def Qes:Code:=QaJ b23 [1,0,1,1,0]
noncomputable def p23_6:Code:=QaJ b23 [1,0,1,1,1,0,0]
def q23_6:CCode:= .region [⟨some 4,.new [.d (.int (.i64) 0),.d (.int (.i64) 0)],none,[]⟩,⟨none,.store 2 (.t 4) (.t 11),none,[11]⟩] none []
theorem k23_6:Qac Tryz.prog Qag [8,10,6,11,4,5,0,1,2] p23_6=some q23_6:=by kernel_rfl
noncomputable def p23_7:Code:=QaJ b23 [1,0,1,1,1,0,1]
def q23_7:CCode:= .region [⟨some 12,.build [.d (.int (.i64) 0),.d (.int (.i64) 0),.d (.str []),.fslice [],.fslice []] [],none,[]⟩,⟨some 13,.fieldAddr 0 (.t 4),none,[]⟩,⟨some 14,.load false 1 (.t 13),none,[]⟩,⟨some 15,.fieldAddr 1 (.t 4),none,[]⟩,⟨some 16,.load false 1 (.t 15),none,[]⟩,⟨none,.store 5 (.t 0) (.t 12),none,[12]⟩,⟨none,.store 1 (.t 1) (.t 14),none,[14]⟩,⟨none,.store 1 (.t 2) (.t 16),none,[16]⟩] (some ⟨[],[],[],some [([],some 5),([2,4],some 6),([4],none)]⟩) [12,13,14,15,16]
theorem k23_7:Qac Tryz.prog Qag [8,10,6,11,4,5,0,1,2] p23_7=some q23_7:=by kernel_rfl
noncomputable def p23_1:Code:=QaJ b23 [1,0,1,1,1,1,0]
def q23_1:CCode:= .region [⟨some 5,.move (.t 6),none,[6]⟩] none []
noncomputable def p23_2:Code:=QaJ b23 [1,0,1,1,1,1,1]
def q23_2:CCode:= .region [⟨some 7,.move (.t 5),none,[]⟩,⟨none,.panic (.t 7),none,[]⟩] none [7]
noncomputable def Qnx:Code:=(Tryz.f209.body).getD .skip
noncomputable def p209_0:Code:=QaJ Qnx [0]
def Qmh:CCode:= .region [⟨some 4,.move (.c (.d (.int (.i64) 0))),none,[]⟩] none []
theorem k209_0:Qac Tryz.prog Qag [0,1,2,3,4,5,16,24] p209_0=some Qmh:=by kernel_rfl
noncomputable def p209_1:Code:=QaJ Qnx [1,0]
def Qmg:CCode:= .region [⟨some 14,.move (.t 1),none,[]⟩,⟨some 15,.len (.str) (.t 14),none,[]⟩,⟨some 5,.move (.t 15),none,[15]⟩] none [14,15]
theorem k209_1:Qac Tryz.prog Qag [0,1,2,3,4,5,16,24] p209_1=some Qmg:=by kernel_rfl
noncomputable def p209_2:Code:=QaJ Qnx [1,1,0,0,0]
def Qmf:CCode:= .region [⟨some 17,.move (.t 5),none,[]⟩,⟨some 18,.bin (.eql) (.none) (.t 17) (.c (.d (.int (.i64) 0))),none,[]⟩,⟨some 19,.move (.t 18),none,[]⟩,⟨some 20,.move (.t 1),some (19,false),[]⟩,⟨some 21,.move (.t 0),some (19,false),[]⟩,⟨some 22,.bin (.eql) (.none) (.t 20) (.t 21),some (19,false),[]⟩,⟨some 23,.pick (.t 19) (.c (boolD true)) (.t 22),none,[]⟩,⟨some 16,.move (.t 23),none,[23]⟩] none [17,18,19,20,21,22,23]
theorem k209_2:Qac Tryz.prog Qag [0,1,2,3,4,5,16,24] p209_2=some Qmf:=by kernel_rfl
noncomputable def p209_3:Code:=QaJ Qnx [1,1,0,0,1,0,0]
def Qme:CCode:= .region [⟨some 4,.move (.c (.d (.int (.i64) 0))),none,[]⟩] none []
theorem k209_3:Qac Tryz.prog Qag [0,1,2,3,4,5,16,24] p209_3=some Qme:=by kernel_rfl
noncomputable def p209_4:Code:=QaJ Qnx [1,1,0,0,1,1,0]
def Qmd:CCode:= .region [⟨some 25,.move (.t 5),none,[]⟩,⟨some 26,.bin (.eql) (.none) (.t 25) (.c (.d (.int (.i64) 1))),none,[]⟩,⟨some 24,.move (.t 26),none,[26]⟩] none [25,26]
theorem k209_4:Qac Tryz.prog Qag [0,1,2,3,4,5,16,24] p209_4=some Qmd:=by kernel_rfl
noncomputable def p209_5:Code:=QaJ Qnx [1,1,0,0,1,1,1,0,0]
def Qmc:CCode:= .region [⟨some 27,.move (.t 0),none,[]⟩,⟨some 28,.move (.t 1),none,[]⟩,⟨some 29,.idxStr (.t 28) (.c (.d (.int (.i64) 0))),none,[]⟩,⟨some 30,.call 189 [.t 27,.t 29],none,[]⟩,⟨some 4,.move (.t 30),none,[30]⟩] none [27,28,29,30]
theorem k209_5:Qac Tryz.prog Qag [0,1,2,3,4,5,16,24] p209_5=some Qmc:=by kernel_rfl
noncomputable def p209_6:Code:=QaJ Qnx [1,1,0,0,1,1,1,0,1]
def q209_6:CCode:= .ret
noncomputable def p209_7:Code:=QaJ Qnx [1,1,0,0,1,1,1,1]
noncomputable def p209_8:Code:=QaJ Qnx [1,1,1]
end Go.Proofs.YtfoiaojdnmpgmaaGreatDoor
namespace Go.Abs
open Go.RowKit
def Qfc(v v':Value)(s:Nat):Prop:=v'.ownBlock=v.ownBlock∨∃k,v'.ownBlock=some k∧s≤k
section
variable {P:Program} (w:World)
theorem QfG(t ty e:TypeId)(i:TypeInfo)(z:Value)(size bytes:Nat)(ht:P.underlying t=some (.slice e))(hi:P.info? e=some i)(hz:i.zero=some z)
  (hsize:i.size=size)(hby:i.bytes=bytes)(hzs:z.cells.size=size)(hsz:0<size)
  (v:Value)(n:Nat)(xs:List Value)(hown:w.ownsRowF 0 e size v n xs)
  (a:Addr)(m c:Nat)(news:List Value)(hl:news.length=m*size)(hnews:∀j u,news[j]? =some u→w.cell? (a.add j)=some u)(h1:∀u∈news,u.oneCell'=true)
  (h63:n+m≤maxLen)(hbytes:(n+m)*bytes≤140737488355328):
  ∃v' w',(Builtin.append_ #[t,t] ty #[v,.slice (some a) m c]).run P w= .ok v' w'∧w'.ownsRowF 0 e size v' (n+m) (xs++news)∧w.grownBy w' v.ownBlock∧Qfc v v' w.heap.size:=by
 rcases hown.2 with⟨rfl,rfl⟩|⟨g,cap,cur,fz,rfl,hbg,hg,hfz,hnc,hcm,hcs,htake⟩
 ·have hown2:w.ownsRowF w.heap.size e size (.slice none 0 0) 0 xs:=⟨hown.1,.inl ⟨rfl,rfl⟩⟩
  obtain⟨v',w',r1,r2,r3,r4⟩:=run_append_ownF (P:=P) w w.heap.size t ty e i z size bytes ht hi hz hsize hby hzs hsz _ 0 xs hown2 a m c news hl hnews h1 h63 hbytes (Nat.le_refl _)
  refine⟨v',w',r1,⟨r2.1, ?_⟩,r3, ?_⟩
  ·rcases r2.2 with h|⟨g,cap,cur,fz,h1,h2,h3⟩
   ·exact .inl h
   ·exact .inr ⟨g,cap,cur,fz,h1,Nat.zero_le _,h3⟩
  ·rcases r2.2 with⟨h,_⟩|⟨g,cap,cur,fz,h1,h2,h3⟩
   ·exact .inl (by rw[h])
   ·exact .inr ⟨g,by rw[h1];rfl,h2⟩
 ·obtain⟨v',w',r1,r2,r3,r4⟩:=run_append_ownF (P:=P) w 0 t ty e i z size bytes ht hi hz hsize hby hzs hsz _ n xs hown a m c news hl hnews h1 h63 hbytes (Nat.zero_le _)
  refine⟨v',w',r1,r2,r3, ?_⟩
  subst hsize
  subst hby
  have hsmall:n+m≤9223372036854775807:=by simp only[maxLen]at h63;omega
  by_cases hroom:n+m≤cap
  ·have hfit:n*i.size+news.length≤cur.size:=by rw[hl,hcs,←Nat.add_mul];exact Nat.mul_le_mul_right _ hroom
   have hr:=run_append_roomF (P:=P) w t ty e i ht hi g n cap cur fz hg hfz a m c news hl hnews h1 hroom hfit
   rw[r1]at hr
   injection hr with hr _
   exact .inl (by rw[hr];rfl)
  ·have holds:∀j u,xs[j]? =some u→w.cell? ((⟨g,0,none⟩:Addr).add j)=some u:=hown.cells (g:=g) rfl
   have hr:=run_append_grow (P:=P) w t ty e i z ht hi hz ⟨g,0,none⟩ n cap xs hown.1 holds a m c news hl hnews (by omega) (by omega) (growslice_fits (by omega) hbytes)
   rw[r1]at hr
   injection hr with hr _
   exact .inr ⟨w.heap.size,by rw[hr];rfl,Nat.le_refl _⟩
theorem QaK{ops:Array Oper}{rest:List Oper}{o:Oper}{a:Act}{Q:Exit→Act→World→Prop}(hgd:o.guard=none)(s x:Operand)(t:TypeId)
  (ho:o.op= .call { callee:= .builtin .append,args:= #[s,x],argTypes:= #[t,t] })
  (e:TypeId)(i:TypeInfo)(z:Value)(size bytes:Nat)(ht:P.underlying t=some (.slice e))(hi:P.info? e=some i)(hz:i.zero=some z)
  (hsize:i.size=size)(hby:i.bytes=bytes)(hzs:z.cells.size=size)(hsz:0<size)
  (v:Value)(n:Nat)(xs:List Value)(hs:a.eval s=v)(hown:w.ownsRowF 0 e size v n xs)
  (ad:Addr)(m c:Nat)(news:List Value)(hx:a.eval x= .slice (some ad) m c)(hl:news.length=m*size)(hnews:∀j u,news[j]? =some u→w.cell? (ad.add j)=some u)(h1:∀u∈news,u.oneCell'=true)
  (h63:n+m≤maxLen)(hbytes:(n+m)*bytes≤140737488355328)
  (h:∀v' w',w'.ownsRowF 0 e size v' (n+m) (xs++news)→w.grownBy w' v.ownBlock→Qfc v v' w.heap.size→wpList P ops Q rest (a.put o.dst v') w'):wpList P ops Q (o::rest) a w:=by
 refine wpList_plain hgd fun K hK=> ?_
 obtain⟨v',w',hr,h2,h3,h4⟩:=QfG (P:=P) w t o.type e i z size bytes ht hi hz hsize hby hzs hsz v n xs hown ad m c news hl hnews h1 h63 hbytes
 unfold Oper.wp execOp
 simp only[ho,resolve,invoke,builtin,Sem.run_bind,Sem.run_pure,Result.andThen_ok,List.map_toArray,List.map_cons,List.map_nil,hs,hx,hr]
 exact hK _ _ (h v' w' h2 h3 h4)
end
end Go.Abs
namespace Go.Proofs.YtfoiaojdnmpgmaaGreatDoor
open Go Go.Abs
theorem nx_end'{s:Tx}{p:Nat}(h:s.length≤p):nx s p=0:=by
 unfold nx;rw[List.getElem?_eq_none h];rfl
theorem Qd2{s:Tx}{p:Nat}(h:nx s p≠0):p<s.length:=by
 rcases Nat.lt_or_ge p s.length with h1|h1
 ·exact h1
 ·exact absurd (nx_end' h1) h
theorem QkU{c k:UInt8}{n:Int}(h:c=k)(hn:(k.toNat:Int)=n):((c.toNat:Int)==n)=true:=by subst h;simpa using hn
theorem Qi9{c k:UInt8}{n:Int}(h:c≠k)(hn:(k.toNat:Int)=n):((c.toNat:Int)==n)=false:=by
 rw[Bool.eq_false_iff]
 intro e
 have:(c.toNat:Int)=n:=by simpa using e
 exact h (UInt8.toNat_inj.1 (by omega))
theorem Qa7(s:Tx)(p:Nat):p≤Qar s p∧(p≤s.length→Qar s p≤s.length):=by
 unfold Qar
 have:=(List.takeWhile_prefix (p:=Qdd) (l:=s.drop p)).length_le
 rw[List.length_drop]at this
 omega
theorem QdE{s:Tx}{c:UInt8}{p q:Nat}(h:Qem s c p= .ok q):q=p+1∧q≤s.length:=by
 unfold Qem at h
 split at h
 ·rename_i h1;have:=(List.getElem?_eq_some_iff.1 h1).1;cases h;omega
 ·cases h
theorem Qhi{s:Tx}:∀ {w:Tx} {p q:Nat},QdB s w p= .ok q→q=p+w.length∧(p≤s.length→q≤s.length)
 | [],p,q,h=>by cases h;exact⟨rfl,fun h=>h⟩
 |c::w,p,q,h=>by
  unfold QdB at h
  split at h
  ·rename_i q' h1
   obtain⟨rfl,h2⟩:=QdE h1
   have:=Qhi h
   simp only[List.length_cons];omega
  ·cases h
theorem QiR{s:Tx}{first:Nat}:∀ {f n p m q:Nat},QbA s first f n p= .ok (m,q)→p≤q∧(p≤s.length→q≤s.length)∧(Qce (nx s p)=true→p<q)
 |0,_,_,_,_,h=>by cases h
 |f+1,n,p,m,q,h=>by
  unfold QbA at h
  split at h
  ·rename_i hd
   split at h
   ·cases h
   ·have hp:p<s.length:=Qd2 fun h=>by rw[h]at hd;cases hd
    have:=QiR h
    omega
  ·rename_i hd
   cases h;exact⟨Nat.le_refl _,fun h=>h,fun h=>absurd h hd⟩
theorem QmL{s:Tx}{p q:Nat}{j:J}(h:QcS s p= .ok (j,q)):p<q∧q≤s.length:=by
 unfold QcS at h
 simp only at h
 generalize hf:(if nx s p=45 then p+1 else p)=f at h
 have hpf:p≤f:=by rw[←hf];split<;>omega
 split at h
 ·rename_i hd
  split at h
  ·cases h
  ·rename_i n q' h1
   split at h
   ·cases h
   ·have hl:f<s.length:=Qd2 fun h=>by rw[h]at hd;cases hd
    have:=QiR h1
    have:=this.2.2 hd
    cases h;omega
 ·cases h
theorem QjP{s:Tx}:∀ {k n p m q:Nat},Qcp s k n p= .ok (m,q)→p≤q∧(p≤s.length→q≤s.length)
 |0,n,p,m,q,h=>by unfold Qcp at h;cases h;omega
 |k+1,n,p,m,q,h=>by
  unfold Qcp at h
  split at h
  ·cases h
  ·rename_i c hc
   have:=(List.getElem?_eq_some_iff.1 hc).1
   split at h
   ·cases h
   ·have:=QjP h;omega
theorem Qnf{s:Tx}{p n q:Nat}(h:QgA s p= .ok (n,q)):p<q∧q≤s.length:=by
 unfold QgA at h
 split at h
 ·cases h
 ·rename_i c hc
  have hl:=(List.getElem?_eq_some_iff.1 hc).1
  iterate 6 (split at h;· have:=congrArg Prod.snd (Except.ok.inj h);simp only at this;omega)
  split at h
  ·split at h
   ·cases h
   ·rename_i n1 p1 h1
    have:=QjP h1
    split at h
    ·have:=congrArg Prod.snd (Except.ok.inj h);simp only at this;omega
    ·split at h
     ·cases h
     ·rename_i hh
      have h92:s[p1]? =some 92∧s[p1+1]? =some 117:=Classical.byContradiction fun k=>hh (.inr k)
      have:=(List.getElem?_eq_some_iff.1 h92.2).1
      split at h
      ·cases h
      ·rename_i n2 p2 h2
       have:=QjP h2
       split at h
       ·cases h
       ·have:=congrArg Prod.snd (Except.ok.inj h);simp only at this;omega
  ·cases h
theorem QhO{s:Tx}:∀ {f:Nat} {acc:Tx} {p q:Nat} {t:Tx},QcI s f acc p= .ok (t,q)→p<q∧q≤s.length
 |0,_,_,_,_,h=>by cases h
 |f+1,acc,p,q,t,h=>by
  unfold QcI at h
  split at h
  ·cases h
  ·rename_i c hc
   have hl:=(List.getElem?_eq_some_iff.1 hc).1
   split at h
   ·cases h
   ·split at h
    ·cases h;omega
    ·split at h
     ·split at h
      ·cases h
      ·rename_i n1 p1 h1
       have:=Qnf h1
       have:=QhO h
       omega
     ·have:=QhO h;omega
theorem Qjb{s:Tx}{p q:Nat}{t:Tx}(h:Qb6 s p= .ok (t,q)):p<q∧q≤s.length:=by
 unfold Qb6 at h
 split at h
 ·cases h
 ·rename_i p1 h1
  have:=QdE h1
  have:=QhO h
  omega
theorem Qcq{s:Tx}{first:Bool}{e:UInt8}{p q:Nat}{b:Bool}(h:QfT s first e p= .ok (b,q)):p≤q∧(p≤s.length→q≤s.length)∧(b=false→p<q):=by
 unfold QfT at h
 simp only at h
 have hb:=Qa7 s p
 split at h
 ·rename_i h1;have:=(List.getElem?_eq_some_iff.1 h1).1;cases h;refine⟨by omega,fun _=>by omega,fun _=>by omega⟩
 ·split at h
  ·cases h;exact⟨hb.1,hb.2,fun h=>by cases h⟩
  ·split at h
   ·cases h
   ·rename_i q1 h1
    have:=QdE h1
    have hb2:=Qa7 s q1
    cases h;exact⟨by omega,fun _=>hb2.2 (by omega),fun h=>by cases h⟩
theorem all_lt(s:Tx):∀f:Nat,(∀deep p j q,Qbk s f deep p= .ok (j,q)→p<q∧(q≤s.length))∧
  (∀deep first acc p l q,Qez s f deep first acc p= .ok (l,q)→p<q∧(p≤s.length→q≤s.length))∧
  (∀deep first ks acc p k l q,Qbm s f deep first ks acc p= .ok (k,l,q)→p<q∧(p≤s.length→q≤s.length)):=by
 intro f
 induction f with
 |zero=>
  refine⟨fun _ _ _ _ h=> ?_,fun _ _ _ _ _ _ h=> ?_,fun _ _ _ _ _ _ _ _ h=> ?_⟩
  ·unfold Qbk at h;cases h
  ·unfold Qez at h;cases h
  ·unfold Qbm at h;cases h
 |succ f ih=>
  refine⟨fun deep p j q h=> ?_,fun deep first acc p l q h=> ?_,fun deep first ks acc p k l q h=> ?_⟩
  ·unfold Qbk at h
   split at h
   ·cases h
   split at h
   ·rename_i hc
    have hp:p<s.length:=Qd2 (by rw[hc];decide)
    split at h
    ·cases h
    ·rename_i l q' h1
     have:=ih.2.1 _ _ _ _ _ _ h1
     cases h;omega
   split at h
   ·rename_i hc
    have hp:p<s.length:=Qd2 (by rw[hc];decide)
    split at h
    ·cases h
    ·rename_i k l q' h1
     have:=ih.2.2 _ _ _ _ _ _ _ _ h1
     cases h;omega
   split at h
   ·split at h
    ·cases h
    ·rename_i t q' h1
     have:=Qjb h1
     cases h;exact this
   split at h
   ·rename_i hc
    have hp:p<s.length:=Qd2 (by rw[hc];decide)
    split at h
    ·cases h
    ·rename_i q' h1
     have:=Qhi h1
     cases h;simp only[List.length_cons,List.length_nil]at this;omega
   split at h
   ·rename_i hc
    have hp:p<s.length:=Qd2 (by rw[hc];decide)
    split at h
    ·cases h
    ·rename_i q' h1
     have:=Qhi h1
     cases h;simp only[List.length_cons,List.length_nil]at this;omega
   split at h
   ·rename_i hc
    have hp:p<s.length:=Qd2 (by rw[hc];decide)
    split at h
    ·cases h
    ·rename_i q' h1
     have:=Qhi h1
     cases h;simp only[List.length_cons,List.length_nil]at this;omega
   exact QmL h
  ·unfold Qez at h
   split at h
   ·cases h
   ·rename_i q' h1
    have:=Qcq h1
    have:=this.2.2 rfl
    cases h;omega
   ·rename_i p' h1
    have:=Qcq h1
    split at h
    ·cases h
    ·rename_i j q' h2
     have:=ih.1 _ _ _ _ h2
     have:=ih.2.1 _ _ _ _ _ _ h
     omega
  ·unfold Qbm at h
   split at h
   ·cases h
   ·rename_i q' h1
    have:=Qcq h1
    have:=this.2.2 rfl
    cases h;omega
   ·rename_i p' h1
    have:=Qcq h1
    split at h
    ·cases h
    ·rename_i k' q' h2
     have:=Qjb h2
     split at h
     ·cases h
     ·split at h
      ·cases h
      ·rename_i r h3
       have:=QdE h3
       split at h
       ·cases h
       ·rename_i j z h4
        have:=ih.1 _ _ _ _ h4
        have:=ih.2.2 _ _ _ _ _ _ _ _ h
        have:=Qa7 s q'
        have:=Qa7 s r
        omega
theorem Qfg{s:Tx}{f deep p q:Nat}{j:J}(h:Qbk s f deep p= .ok (j,q)):p<q∧q≤s.length:=(all_lt s f).1 _ _ _ _ h
end Go.Proofs.YtfoiaojdnmpgmaaGreatDoor
set_option maxHeartbeats 1000000
set_option linter.unusedVariables false
namespace Go.Proofs.YtfoiaojdnmpgmaaGreatDoor
open Go Go.Abs Go.Proofs Go.RowKit Go.Lib
theorem u76:Tryz.prog.underlying 178=some (.pointer 180):=by kernel_rfl
theorem u101:Tryz.prog.underlying 211=some .unsafePointer:=by kernel_rfl
theorem i78:∃j,Tryz.prog.info? 180=some j∧j.size=2:=by
 have h:(Tryz.prog.info? 180).map (·.size)=some 2:=by kernel_rfl
 obtain⟨j,h1,h2⟩:=Option.map_eq_some_iff.1 h
 exact⟨j,h1,h2⟩
theorem lies78:liesAt Tryz.prog Tryz.prog.depth 180 (2/Tryz.prog.cellsOf 180) 0 180 1=true:=by kernel_rfl
theorem cc_used(b:Nat)(w:World)(h0:w.cell? ⟨b,0,none⟩=some (.pointer (some ⟨b,0,none⟩))):
  Calls Tryz.prog 204 #[.pointer (some ⟨b,0,none⟩)] w fun e w'=>e= .returned (.tuple #[])∧w'=w:=by
 obtain⟨j,hj,hjs⟩:=i78
 go_enter Tryz.func204,Tryz.ntmps204
 go_wp2
 rw[Lib.run_neq_ptr_same w _ u76 hj]
 go_wp2
 go_end0
 exact⟨rfl,rfl⟩
theorem cc_fresh(b:Nat)(w:World)(h0:w.cell? ⟨b,0,none⟩=some (.pointer none))(hsh:w.shape? b=some (180,2))(hfz:w.frozen? ⟨b,0,none⟩=false):
  Calls Tryz.prog 204 #[.pointer (some ⟨b,0,none⟩)] w fun e w'=>e= .returned (.tuple #[])∧w'=w.setCell ⟨b,0,none⟩ (.pointer (some ⟨b,0,none⟩)):=by
 obtain⟨j,hj,hjs⟩:=i78
 go_enter Tryz.func204,Tryz.ntmps204
 go_wp2
 rw[Lib.run_to_unsafe w ⟨b,0,none⟩ u76 u101 hj (by rw[hjs];decide) hsh (Nat.zero_lt_succ 1)]
 simp only[Result.andThen]
 rw[Oper.upon_value]
 go_wp2
 rw[run_callFunc_extern Tryz.func224 (by kernel_rfl) (by kernel_rfl) (by kernel_rfl) (e:=Extern.AbiNoEscape.same) (by kernel_rfl)]
 rw[Lib.run_noEscape]
 simp only[Result.andThen]
 rw[Oper.upon_value]
 go_wp2
 rw[Lib.run_from_unsafe w ⟨b,0,none⟩ u101 u76 hj hsh lies78]
 simp only[Result.andThen]
 rw[Oper.upon_value]
 go_wp2
 go_end0
 exact⟨rfl,rfl⟩
theorem u22:Tryz.prog.underlying 36=some (.slice 5):=by kernel_rfl
theorem Qlo:∃i:TypeInfo,Tryz.prog.info? 5=some i∧i.zero=some (.int .u8 0)∧i.size=1∧i.bytes=1:=info_parts (by kernel_rfl)
theorem ar1(v:Value)(n:Nat)(xs:List Value)(r:Int)(h0:0≤r)(h1:r≤127)(w:World)(hown:w.ownsRowF 0 5 1 v n xs)(hlen:n+4≤140737488355328):
  Calls Tryz.prog 205 #[v,.int .i32 r] w fun e w'=>∃v',e= .returned v'∧w'.ownsRowF 0 5 1 v' (n+1) (xs++ [.int .u8 r])∧(∃o,(w.alloc o).grownBy w' v.ownBlock)∧Qfc v v' w.heap.size:=by
 obtain⟨i0,hi,hz0,hz1,hz2⟩:=Qlo
 go_enter Tryz.func205,Tryz.ntmps205
 go_wp2_with (at_builtin;refine QaK _ rfl _ _ 36 rfl 5 i0 (.int .u8 0) 1 1 u22 hi hz0 hz1 hz2 rfl (by decide) _ _ _ rfl (hown.alloc _) ⟨w.heap.size,0,none⟩ 1 1 [.int .u8 r] rfl rfl ?c1 ?c2 ?c3 ?c4 ?_)
 case c1=>
  intro j u hj
  match j,hj with
  |0,hj=>simp at hj;subst hj;simp[Addr.add]
  |(j+1),hj=>simp at hj
 case c2=>intro u hu;simp at hu;subst hu;rfl
 case c3=>unfold maxLen;omega
 case c4=>omega
 intro v' w2 hown' hgrow hrow
 go_wp2
 go_ret
 exact⟨_,rfl,hown',⟨_,hgrow⟩,hrow.imp_right fun⟨k,h1,h2⟩=>⟨k,h1,by omega⟩⟩
theorem ar2(v:Value)(n:Nat)(xs:List Value)(r:Int)(h0:128≤r)(h1:r≤2047)(w:World)(hown:w.ownsRowF 0 5 1 v n xs)(hlen:n+4≤140737488355328):
  Calls Tryz.prog 225 #[v,.int .i32 r] w fun e w'=>∃v',e= .returned v'∧w'.ownsRowF 0 5 1 v' (n+2) (xs++ [.int .u8 (192+r/64),.int .u8 (128+r % 64)])∧(∃o,(w.alloc o).grownBy w' v.ownBlock)∧Qfc v v' w.heap.size:=by
 obtain⟨i0,hi,hz0,hz1,hz2⟩:=Qlo
 go_enter Tryz.func225,Tryz.ntmps225
 go_wp2_with (at_builtin;refine QaK _ rfl _ _ 36 rfl 5 i0 (.int .u8 0) 1 1 u22 hi hz0 hz1 hz2 rfl (by decide) _ _ _ rfl (hown.alloc _) ⟨w.heap.size,0,none⟩ 2 2 [.int .u8 (192+r/64),.int .u8 (128+r % 64)] rfl rfl ?c1 ?c2 ?c3 ?c4 ?_)
 case c1=>
  intro j u hj
  match j,hj with
  |0,hj=>simp at hj;subst hj;simp[Addr.add]
  |1,hj=>simp at hj;subst hj;simp[Addr.add]
  |(j+2),hj=>simp at hj
 case c2=>intro u hu;simp at hu;rcases hu with rfl|rfl<;>rfl
 case c3=>unfold maxLen;omega
 case c4=>omega
 intro v' w2 hown' hgrow hrow
 go_wp2
 go_ret
 exact⟨_,rfl,hown',⟨_,hgrow⟩,hrow.imp_right fun⟨k,h1,h2⟩=>⟨k,h1,by omega⟩⟩
theorem ar3(v:Value)(n:Nat)(xs:List Value)(r:Int)(h0:2048≤r)(h1:r<55296)(w:World)(hown:w.ownsRowF 0 5 1 v n xs)(hlen:n+4≤140737488355328):
  Calls Tryz.prog 225 #[v,.int .i32 r] w fun e w'=>∃v',e= .returned v'∧w'.ownsRowF 0 5 1 v' (n+3) (xs++ [.int .u8 (224+r/4096),.int .u8 (128+r/64 % 64),.int .u8 (128+r % 64)])∧(∃o,(w.alloc o).grownBy w' v.ownBlock)∧Qfc v v' w.heap.size:=by
 obtain⟨i0,hi,hz0,hz1,hz2⟩:=Qlo
 go_enter Tryz.func225,Tryz.ntmps225
 go_wp2_with (at_builtin;refine QaK _ rfl _ _ 36 rfl 5 i0 (.int .u8 0) 1 1 u22 hi hz0 hz1 hz2 rfl (by decide) _ _ _ rfl (hown.alloc _) ⟨w.heap.size,0,none⟩ 3 3 [.int .u8 (224+r/4096),.int .u8 (128+r/64 % 64),.int .u8 (128+r % 64)] rfl rfl ?c1 ?c2 ?c3 ?c4 ?_)
 case c1=>
  intro j u hj
  match j,hj with
  |0,hj=>simp at hj;subst hj;simp[Addr.add]
  |1,hj=>simp at hj;subst hj;simp[Addr.add]
  |2,hj=>simp at hj;subst hj;simp[Addr.add]
  |(j+3),hj=>simp at hj
 case c2=>intro u hu;simp at hu;rcases hu with rfl|rfl|rfl<;>rfl
 case c3=>unfold maxLen;omega
 case c4=>omega
 intro v' w2 hown' hgrow hrow
 go_wp2
 go_ret
 exact⟨_,rfl,hown',⟨_,hgrow⟩,hrow.imp_right fun⟨k,h1,h2⟩=>⟨k,h1,by omega⟩⟩
theorem ar4(v:Value)(n:Nat)(xs:List Value)(r:Int)(h0:57343<r)(h1:r≤65535)(w:World)(hown:w.ownsRowF 0 5 1 v n xs)(hlen:n+4≤140737488355328):
  Calls Tryz.prog 225 #[v,.int .i32 r] w fun e w'=>∃v',e= .returned v'∧w'.ownsRowF 0 5 1 v' (n+3) (xs++ [.int .u8 (224+r/4096),.int .u8 (128+r/64 % 64),.int .u8 (128+r % 64)])∧(∃o,(w.alloc o).grownBy w' v.ownBlock)∧Qfc v v' w.heap.size:=by
 obtain⟨i0,hi,hz0,hz1,hz2⟩:=Qlo
 go_enter Tryz.func225,Tryz.ntmps225
 go_wp2_with (at_builtin;refine QaK _ rfl _ _ 36 rfl 5 i0 (.int .u8 0) 1 1 u22 hi hz0 hz1 hz2 rfl (by decide) _ _ _ rfl (hown.alloc _) ⟨w.heap.size,0,none⟩ 3 3 [.int .u8 (224+r/4096),.int .u8 (128+r/64 % 64),.int .u8 (128+r % 64)] rfl rfl ?c1 ?c2 ?c3 ?c4 ?_)
 case c1=>
  intro j u hj
  match j,hj with
  |0,hj=>simp at hj;subst hj;simp[Addr.add]
  |1,hj=>simp at hj;subst hj;simp[Addr.add]
  |2,hj=>simp at hj;subst hj;simp[Addr.add]
  |(j+3),hj=>simp at hj
 case c2=>intro u hu;simp at hu;rcases hu with rfl|rfl|rfl<;>rfl
 case c3=>unfold maxLen;omega
 case c4=>omega
 intro v' w2 hown' hgrow hrow
 go_wp2
 go_ret
 exact⟨_,rfl,hown',⟨_,hgrow⟩,hrow.imp_right fun⟨k,h1,h2⟩=>⟨k,h1,by omega⟩⟩
theorem ar5(v:Value)(n:Nat)(xs:List Value)(r:Int)(h0:65536≤r)(h1:r≤1114111)(w:World)(hown:w.ownsRowF 0 5 1 v n xs)(hlen:n+4≤140737488355328):
  Calls Tryz.prog 225 #[v,.int .i32 r] w fun e w'=>∃v',e= .returned v'∧w'.ownsRowF 0 5 1 v' (n+4) (xs++ [.int .u8 (240+r/262144),.int .u8 (128+r/4096 % 64),.int .u8 (128+r/64 % 64),.int .u8 (128+r % 64)])∧(∃o,(w.alloc o).grownBy w' v.ownBlock)∧Qfc v v' w.heap.size:=by
 obtain⟨i0,hi,hz0,hz1,hz2⟩:=Qlo
 go_enter Tryz.func225,Tryz.ntmps225
 go_wp2_with (at_builtin;refine QaK _ rfl _ _ 36 rfl 5 i0 (.int .u8 0) 1 1 u22 hi hz0 hz1 hz2 rfl (by decide) _ _ _ rfl (hown.alloc _) ⟨w.heap.size,0,none⟩ 4 4 [.int .u8 (240+r/262144),.int .u8 (128+r/4096 % 64),.int .u8 (128+r/64 % 64),.int .u8 (128+r % 64)] rfl rfl ?c1 ?c2 ?c3 ?c4 ?_)
 case c1=>
  intro j u hj
  match j,hj with
  |0,hj=>simp at hj;subst hj;simp[Addr.add]
  |1,hj=>simp at hj;subst hj;simp[Addr.add]
  |2,hj=>simp at hj;subst hj;simp[Addr.add]
  |3,hj=>simp at hj;subst hj;simp[Addr.add]
  |(j+4),hj=>simp at hj
 case c2=>intro u hu;simp at hu;rcases hu with rfl|rfl|rfl|rfl<;>rfl
 case c3=>unfold maxLen;omega
 case c4=>omega
 intro v' w2 hown' hgrow hrow
 go_wp2
 go_ret
 exact⟨_,rfl,hown',⟨_,hgrow⟩,hrow.imp_right fun⟨k,h1,h2⟩=>⟨k,h1,by omega⟩⟩
def QfF(n:Nat):Prop:=n<55296∨57343<n∧n≤1114111
theorem Qjj{n:Nat}(h:QfF n):byteCells (QcP n)=if n<128 then [.int .u8 (n:Int)]else if n<2048 then [.int .u8 (192+(n:Int)/64),.int .u8 (128+(n:Int)% 64)]
  else if n<65536 then [.int .u8 (224+(n:Int)/4096),.int .u8 (128+(n:Int)/64 % 64),.int .u8 (128+(n:Int)% 64)]
  else [.int .u8 (240+(n:Int)/262144),.int .u8 (128+(n:Int)/4096 % 64),.int .u8 (128+(n:Int)/64 % 64),.int .u8 (128+(n:Int)% 64)]:=by
 have u:∀k:Nat,k<256→(UInt8.ofNat k).toNat=k:=fun k hk=>by simp;omega
 unfold QfF at h
 unfold QcP byteCells
 split
 ·simp only[List.map_cons,List.map_nil,u n (by omega)]
 split
 ·simp only[List.map_cons,List.map_nil,u (192+n/64) (by omega),u (128+n % 64) (by omega)];rfl
 split
 ·simp only[List.map_cons,List.map_nil,u (224+n/4096) (by omega),u (128+n/64 % 64) (by omega),u (128+n % 64) (by omega)];rfl
 ·simp only[List.map_cons,List.map_nil,u (240+n/262144) (by omega),u (128+n/4096 % 64) (by omega),u (128+n/64 % 64) (by omega),u (128+n % 64) (by omega)];rfl
theorem ar_all(v:Value)(n:Nat)(xs:List Value)(r:Nat)(hr:QfF r)(w:World)(hown:w.ownsRowF 0 5 1 v n xs)(hlen:n+4≤140737488355328):
  Calls Tryz.prog 205 #[v,.int .i32 r] w fun e w'=>∃v',e= .returned v'∧w'.ownsRowF 0 5 1 v' (n+(QcP r).length) (xs++byteCells (QcP r))∧(∃o,(w.alloc o).grownBy w' v.ownBlock)∧Qfc v v' w.heap.size:=by
 have hb:=Qjj hr
 have hl:(QcP r).length=(byteCells (QcP r)).length:=(byteCells_length _).symm
 rw[hl,hb]
 have hr':=hr
 unfold QfF at hr'
 have H:=Lib.hid hr'
 clear hr' hb hl hr
 by_cases c1:r<128
 ·rw[if_pos c1]
  exact ar1 v n xs r (by omega) (by omega) w hown hlen
 rw[if_neg c1]
 have e80:∀args w,(callFunc 225 args).run Tryz.prog w= .ok (.enter 225 args) w:=enters_of Tryz.func225 (by kernel_rfl) rfl
 have h80:∀l:List Value,(Calls Tryz.prog 225 #[v,.int .i32 r] w fun e w'=>∃v',e= .returned v'∧w'.ownsRowF 0 5 1 v' (n+l.length) (xs++l)∧(∃o,(w.alloc o).grownBy w' v.ownBlock)∧Qfc v v' w.heap.size)→
   Calls Tryz.prog 205 #[v,.int .i32 r] w fun e w'=>∃v',e= .returned v'∧w'.ownsRowF 0 5 1 v' (n+l.length) (xs++l)∧(∃o,(w.alloc o).grownBy w' v.ownBlock)∧Qfc v v' w.heap.size:=by
  intro l h
  have c1':(128:Int)≤(r:Int):=by omega
  have c2':(r:Int)≤1114111:=by have:=H.out;omega
  go_enter Tryz.func205,Tryz.ntmps205
  go_wp2_with (go_at_fn 225;refine h.mono ?_)
  rintro e w1 ⟨v',rfl,h1,h2,h3⟩
  go_wp2
  go_ret
  exact⟨_,rfl,h1,h2,h3⟩
 refine h80 _ ?_
 by_cases c2:r<2048
 ·rw[if_pos c2]
  exact ar2 v n xs r (by omega) (by omega) w hown hlen
 rw[if_neg c2]
 by_cases c3:r<65536
 ·rw[if_pos c3]
  by_cases c4:r<55296
  ·exact ar3 v n xs r (by omega) (by omega) w hown hlen
  ·exact ar4 v n xs r (by have:=H.out;omega) (by omega) w hown hlen
 ·rw[if_neg c3]
  exact ar5 v n xs r (by omega) (by have:=H.out;omega) w hown hlen
structure Mv (b:Nat) (row:Option Nat) (w w':World):Prop where
 os:w'.os=w.os
 tape:w'.tape=w.tape
 output:w'.output=w.output
 size:w.heap.size≤w'.heap.size
 block:∀k,k<w.heap.size→k≠b→some k≠row→w'.heap[k]? =w.heap[k]?
theorem Mv.refl(b:Nat)(row:Option Nat)(w:World):Mv b row w w:=⟨rfl,rfl,rfl,Nat.le_refl _,fun _ _ _ _=>rfl⟩
theorem Mv.set{b i:Nat}{row:Option Nat}{w w':World}(h:Mv b row w w')(v:Value):Mv b row w (w'.setCell ⟨b,i,none⟩ v) where
 os:=h.os
 tape:=h.tape
 output:=h.output
 size:=by simpa using h.size
 block k hk hb hr:=by rw[heap_setCell_other _ _ _ _ hb];exact h.block k hk hb hr
theorem Mv.of_grown{b:Nat}{row:Option Nat}{w w1 w':World}(h:Mv b row w w1)(o:Obj)(hg:(w1.alloc o).grownBy w' row):Mv b row w w' where
 os:=hg.os.trans h.os
 tape:=hg.tape.trans h.tape
 output:=hg.output.trans h.output
 size:=by have h1:=hg.size;have h2:=h.size;simp at h1;omega
 block k hk hb hr:=by
  have h2:=h.size
  rw[hg.block k (by simp;omega) hr,alloc_old w1 o k (by omega)]
  exact h.block k hk hb hr
def BAt(b:Nat)(p v:Value)(l:Tx)(w:World):Prop:=
 w.heap[b]? =some (.cells #[p,v] 180 (0,0))∧w.ownsRowF 0 5 1 v l.length (byteCells l)∧v.ownBlock≠some b∧(l= []→v= .slice none 0 0)
def Bld(b:Nat)(l:Tx)(row:Option Nat)(w:World):Prop:=∃p v,(p= .pointer none∨p= .pointer (some ⟨b,0,none⟩))∧BAt b p v l w∧v.ownBlock=row
theorem BAt.lt{b:Nat}{p v:Value}{l:Tx}{w:World}(h:BAt b p v l w):b<w.heap.size:=by
 rcases Nat.lt_or_ge b w.heap.size with h'|h'
 ·exact h'
 ·have:=h.1;simp[Array.getElem?_eq_none h']at this
theorem BAt.row_lt{b:Nat}{p v:Value}{l:Tx}{w:World}(h:BAt b p v l w){k:Nat}(hk:v.ownBlock=some k):k<w.heap.size:=by
 rcases h.2.1.2 with⟨rfl,_⟩|⟨g,cap,cur,fz,rfl,_,hg,_⟩
 ·simp[Value.ownBlock]at hk
 ·obtain rfl:g=k:=by simpa[Value.ownBlock]using hk
  rcases Nat.lt_or_ge g w.heap.size with h'|h'
  ·exact h'
  ·simp[Array.getElem?_eq_none h']at hg
theorem Qhw{v:Value}{n:Nat}{xs:List Value}{w w':World}(h:w.ownsRowF 0 5 1 v n xs)(hk:∀k,v.ownBlock=some k→w'.heap[k]? =w.heap[k]?):w'.ownsRowF 0 5 1 v n xs:=by
 refine⟨h.1, ?_⟩
 rcases h.2 with h|⟨g,cap,cur,fz,rfl,h1,hg,h2⟩
 ·exact .inl h
 ·exact .inr ⟨g,cap,cur,fz,rfl,h1,by rw[hk g (by simp[Value.ownBlock])];exact hg,h2⟩
theorem Bld.kept{b:Nat}{l:Tx}{row:Option Nat}{w w':World}(h:Bld b l row w)(hb:w'.heap[b]? =w.heap[b]?)(hr:∀k,row=some k→w'.heap[k]? =w.heap[k]?):Bld b l row w':=by
 obtain⟨p,v,hp,⟨h1,h2,h3,h4⟩,h5⟩:=h
 exact⟨p,v,hp,⟨by rw[hb];exact h1,Qhw h2 (fun k hk=>hr k (by rw[←h5];exact hk)),h3,h4⟩,h5⟩
theorem cc_any{b:Nat}{p v:Value}{l:Tx}{w:World}(hp:p= .pointer none∨p= .pointer (some ⟨b,0,none⟩))(h:BAt b p v l w):
  Calls Tryz.prog 204 #[.pointer (some ⟨b,0,none⟩)] w fun e w'=>e= .returned (.tuple #[])∧BAt b (.pointer (some ⟨b,0,none⟩)) v l w'∧w'.heap.size=w.heap.size∧Mv b v.ownBlock w w':=by
 obtain⟨h1,h2,h3,h4⟩:=h
 have c0:w.cell? ⟨b,0,none⟩=some p:=by rw[cell_of_heap h1];rfl
 rcases hp with rfl|rfl
 ·refine(cc_fresh b w c0 (by simp[World.shape?,h1]) (by simp[World.frozen?,h1])).mono ?_
  rintro e w' ⟨rfl,rfl⟩
  refine⟨rfl,⟨?_,Qhw h2 (fun k hk=> ?_),h3,h4⟩,by simp,(Mv.refl _ _ _).set _⟩
  ·simp[World.setCell,Array.getElem?_modify,h1]
  ·exact heap_setCell_other _ _ _ _ (fun e=>h3 (by rw[hk,e]))
 ·refine(cc_used b w c0).mono ?_
  rintro e w' ⟨rfl,rfl⟩
  exact⟨rfl,⟨h1,h2,h3,h4⟩,rfl,Mv.refl _ _ _⟩
def QnC(b:Nat)(l:Tx)(row:Option Nat)(w w':World):Prop:=∃row',Bld b l row' w'∧Mv b row w w'∧(row'=row∨∃k,row'=some k∧w.heap.size≤k)
theorem Qml{b:Nat}{v v':Value}{l l':Tx}{w1 w2:World}{o:Obj}(h:BAt b (.pointer (some ⟨b,0,none⟩)) v l w1)(hg:(w1.alloc o).grownBy w2 v.ownBlock)(hrow:Qfc v v' w1.heap.size)
  (hown:w2.ownsRowF 0 5 1 v' l'.length (byteCells l'))(hl:l'≠ []):Bld b l' v'.ownBlock (w2.setCell ⟨b,1,none⟩ v'):=by
 have hlt:=h.lt
 have hb2:w2.heap[b]? =some (.cells #[.pointer (some ⟨b,0,none⟩),v] 180 (0,0)):=by
  rw[hg.block b (by simp;omega) (fun e=>h.2.2.1 e.symm),alloc_old w1 _ b hlt]
  exact h.1
 have hne:v'.ownBlock≠some b:=by
  rcases hrow with e|⟨k,e,hk⟩
  ·rw[e];exact h.2.2.1
  ·rw[e];intro e2;injection e2 with e2;omega
 refine⟨_,v',.inr rfl,⟨?_,Qhw hown (fun k hk=> ?_),hne,fun e=>absurd e hl⟩,rfl⟩
 ·simp[World.setCell,Array.getElem?_modify,hb2]
 ·exact heap_setCell_other _ _ _ _ (fun e=>hne (by rw[hk,e]))
theorem wb_any{b:Nat}{l:Tx}{row:Option Nat}{w:World}(c:UInt8)(h:Bld b l row w)(hlen:l.length+1≤140737488355328):
  Calls Tryz.prog 194 #[.pointer (some ⟨b,0,none⟩),.int .u8 c.toNat] w fun e w'=>e= .returned .nilIface∧QnC b (l++ [c]) row w w':=by
 obtain⟨i0,hi,hz0,hz1,hz2⟩:=Qlo
 obtain⟨p,v,hp,hat,rfl⟩:=h
 have e71:∀args w,(callFunc 204 args).run Tryz.prog w= .ok (.enter 204 args) w:=enters_of Tryz.func204 (by kernel_rfl) rfl
 go_enter Tryz.func194,Tryz.ntmps194
 go_wp2_with (go_at_fn 204;refine(cc_any hp hat).mono ?_)
 rintro e w1 ⟨rfl,h1,hs1,m1⟩
 have HS:=Lib.hid hs1
 clear hs1
 have hbk:=h1.1
 have c0:w1.cell? ⟨b,0,none⟩=some (.pointer (some ⟨b,0,none⟩)):=by rw[cell_of_heap hbk];rfl
 have c1:w1.cell? ⟨b,1,none⟩=some v:=by rw[cell_of_heap hbk];rfl
 go_wp2_with (at_builtin;refine QaK _ rfl _ _ 36 rfl 5 i0 (.int .u8 0) 1 1 u22 hi hz0 hz1 hz2 rfl (by decide) _ _ _ rfl (h1.2.1.alloc _) ⟨w1.heap.size,0,none⟩ 1 1 [.int .u8 c.toNat] rfl rfl ?c1 ?c2 ?c3 ?c4 ?_)
 case c1=>
  intro j u hj
  match j,hj with
  |0,hj=>simp at hj;subst hj;simp[Addr.add]
  |(j+1),hj=>simp at hj
 case c2=>intro u hu;simp at hu;subst hu;rfl
 case c3=>unfold maxLen;omega
 case c4=>omega
 intro v' w2 hown' hgrow hrow
 have hrow':Qfc v v' w1.heap.size:=hrow.imp_right fun⟨k,h1,h2⟩=>⟨k,h1,by omega⟩
 have hlt:=h1.lt
 have hb2:w2.heap[b]? =some (.cells #[.pointer (some ⟨b,0,none⟩),v] 180 (0,0)):=by
  rw[hgrow.block b (by simp;omega) (fun e=>h1.2.2.1 e.symm),alloc_old w1 _ b hlt]
  exact hbk
 have d0:w2.cell? ⟨b,0,none⟩=some (.pointer (some ⟨b,0,none⟩)):=by rw[cell_of_heap hb2];rfl
 have d1:w2.cell? ⟨b,1,none⟩=some v:=by rw[cell_of_heap hb2];rfl
 have f1:w2.frozen? ⟨b,1,none⟩=false:=frozen_of_heap hb2 1
 have hput:=Qml (l':=l++ [c]) h1 hgrow hrow' (by simpa[byteCells]using hown') (by simp)
 have hmv:=(m1.of_grown _ hgrow).set (i:=1) v'
 obtain⟨g,cap,rfl⟩:∃g cap,v'= .slice (some ⟨g,0,none⟩) (l.length+1) cap:=by
  rcases hown'.2 with⟨_,h0⟩|⟨g,cap,cur,fz,hv,_⟩
  ·omega
  ·exact⟨g,cap,hv⟩
 have HP:=Lib.hid hput
 have HM:=Lib.hid hmv
 have HR:=Lib.hid hrow'
 clear hput hmv hrow' hrow hgrow hb2 hbk
 go_wp2
 go_ret
 exact⟨rfl,_,HP.out,HM.out,HR.out.imp_right fun⟨k,h1,h2⟩=>⟨k,h1,by have:=HS.out;omega⟩⟩
theorem wr_any{b:Nat}{l:Tx}{row:Option Nat}{w:World}(r:Nat)(hr:QfF r)(h:Bld b l row w)(hlen:l.length+4≤140737488355328):
  Calls Tryz.prog 192 #[.pointer (some ⟨b,0,none⟩),.int .i32 r] w fun e w'=>(∃v,e= .returned v)∧QnC b (l++QcP r) row w w':=by
 obtain⟨p,v,hp,hat,rfl⟩:=h
 have e71:∀args w,(callFunc 204 args).run Tryz.prog w= .ok (.enter 204 args) w:=enters_of Tryz.func204 (by kernel_rfl) rfl
 have e72:∀args w,(callFunc 205 args).run Tryz.prog w= .ok (.enter 205 args) w:=enters_of Tryz.func205 (by kernel_rfl) rfl
 have hn:QcP r≠ []:=by unfold QcP;(repeat' split)<;>simp
 have hn0:0<(QcP r).length:=List.length_pos_iff.2 hn
 go_enter Tryz.func192,Tryz.ntmps192
 go_wp2_with (go_at_fn 204;refine(cc_any hp hat).mono ?_)
 rintro e w1 ⟨rfl,h1,hs1,m1⟩
 have HS:=Lib.hid hs1
 clear hs1
 obtain⟨ao,cap,rfl⟩:∃ao cap,v= .slice ao l.length cap:=by
  rcases h1.2.1.2 with⟨hv,h0⟩|⟨g,cap,cur,fz,hv,_⟩
  ·exact⟨none,0,by rw[hv,h0]⟩
  ·exact⟨_,_,hv⟩
 have hbk:=h1.1
 have c0:w1.cell? ⟨b,0,none⟩=some (.pointer (some ⟨b,0,none⟩)):=by rw[cell_of_heap hbk];rfl
 have c1:w1.cell? ⟨b,1,none⟩=some (.slice ao l.length cap):=by rw[cell_of_heap hbk];rfl
 have HB:=Lib.hid hbk
 clear hbk
 go_wp2_with (go_at_fn 205;refine(ar_all _ _ _ r hr _ h1.2.1 hlen).mono ?_)
 rintro e w2 ⟨v',rfl,hown',⟨o,hgrow⟩,hrow⟩
 have hlt:=h1.lt
 have hb2:w2.heap[b]? =some (.cells #[.pointer (some ⟨b,0,none⟩),.slice ao l.length cap] 180 (0,0)):=by
  rw[hgrow.block b (by simp;omega) (fun e=>h1.2.2.1 e.symm),alloc_old w1 _ b hlt]
  exact HB.out
 have d0:w2.cell? ⟨b,0,none⟩=some (.pointer (some ⟨b,0,none⟩)):=by rw[cell_of_heap hb2];rfl
 have d1:w2.cell? ⟨b,1,none⟩=some (.slice ao l.length cap):=by rw[cell_of_heap hb2];rfl
 have f1:w2.frozen? ⟨b,1,none⟩=false:=frozen_of_heap hb2 1
 have hput:=Qml (l':=l++QcP r) h1 hgrow hrow (by simpa[byteCells]using hown') (by simp[hn])
 have hmv:=(m1.of_grown _ hgrow).set (i:=1) v'
 obtain⟨g,cap',rfl⟩:∃g cap,v'= .slice (some ⟨g,0,none⟩) (l.length+(QcP r).length) cap:=by
  rcases hown'.2 with⟨_,h0⟩|⟨g,cap,cur,fz,hv,_⟩
  ·omega
  ·exact⟨g,cap,hv⟩
 have HP:=Lib.hid hput
 have HM:=Lib.hid hmv
 have HR:=Lib.hid hrow
 clear hput hmv hrow hgrow hb2
 go_wp2
 go_ret2
 exact⟨⟨_,rfl⟩,_,HP.out,HM.out,HR.out.imp_right fun⟨k,h1,h2⟩=>⟨k,h1,by have:=HS.out;omega⟩⟩
end Go.Proofs.YtfoiaojdnmpgmaaGreatDoor
set_option maxHeartbeats 2000000
set_option linter.unusedVariables false
namespace Go.Proofs.YtfoiaojdnmpgmaaGreatDoor
open Go Go.Abs Go.Proofs Go.RowKit Go.Lib
theorem Qe9:Tryz.prog.follows .mixedOrders=true:=by kernel_rfl
theorem u93:Tryz.prog.underlying 193=some (.pointer 5):=by kernel_rfl
theorem cells5:Tryz.prog.cellsOf 5=1:=by kernel_rfl
theorem str_nil{b:Nat}{p:Value}{w:World}(hbk:w.heap[b]? =some (.cells #[p,.slice none 0 0] 180 (0,0))):
  Calls Tryz.prog 191 #[.pointer (some ⟨b,0,none⟩)] w fun e w'=>e= .returned (.string ⟨#[]⟩)∧w'=w.drew:=by
 have hUS:∀w',(Builtin.unsafeString_ #[193,3] 9 #[.pointer none,.int .i64 0]).run Tryz.prog w'= .ok (.string ⟨#[]⟩) w':=fun w'=>by rfl
 have hSD:∀w',(Builtin.unsafeSliceData_ #[36] 193 #[.slice none 0 0]).run Tryz.prog w'= .ok (.pointer none) w':=fun w'=>rfl
 have c1:w.drew.cell? ⟨b,1,none⟩=some (.slice none 0 0):=by
  have:w.drew.heap[b]? =some (.cells #[p,.slice none 0 0] 180 (0,0)):=hbk
  rw[cell_of_heap this];rfl
 clear hbk
 have Qe9:=Qe9
 go_enter Tryz.func191,Tryz.ntmps191
 go_wp2
 go_region_o
 all_goals(go_wp2;go_ret;exact⟨rfl,rfl⟩)
theorem str_row{b:Nat}{p:Value}{l:Tx}{w:World}{g cap:Nat}{cur:Array Value}{fz:Nat×Nat}(h0:l≠ [])(hbk:w.heap[b]? =some (.cells #[p,.slice (some ⟨g,0,none⟩) l.length cap] 180 (0,0)))
  (hown:w.ownsRowF 0 5 1 (.slice (some ⟨g,0,none⟩) l.length cap) l.length (byteCells l))(hg:w.heap[g]? =some (.cells cur 5 fz))(hnc:l.length≤cap)(hcm:cap≤maxLen)(hcs:cur.size=cap*1):
  Calls Tryz.prog 191 #[.pointer (some ⟨b,0,none⟩)] w fun e w'=>e= .returned (.string ⟨l.toArray⟩)∧w'=w.drew.freeze ⟨g,0,none⟩ l.length:=by
 have hl0:l.length≠0:=by simpa using h0
 have c1:w.drew.cell? ⟨b,1,none⟩=some (.slice (some ⟨g,0,none⟩) l.length cap):=by
  have:w.drew.heap[b]? =some (.cells #[p,.slice (some ⟨g,0,none⟩) l.length cap] 180 (0,0)):=hbk
  rw[cell_of_heap this];rfl
 have hSD:(Builtin.unsafeSliceData_ #[36] 193 #[.slice (some ⟨g,0,none⟩) l.length cap]).run Tryz.prog w.drew= .ok (.pointer (some ⟨g,0,none⟩)) w.drew:=
  run_unsafeSliceData_row _ _ _ _ _ _ (by omega)
 have hUS:(Builtin.unsafeString_ #[193,3] 9 #[.pointer (some ⟨g,0,none⟩),.int .i64 l.length]).run Tryz.prog w.drew= .ok (.string ⟨l.toArray⟩) (w.drew.freeze ⟨g,0,none⟩ l.length):=by
  refine run_unsafeString_row w.drew 193 3 9 5 u93 cells5 g cur.size (by have hg':w.drew.heap[g]? =some (.cells cur 5 fz):=hg;simp[World.shape?,hg']) l h0 (by omega) (by unfold maxLen at hcm;omega) ?_
  intro j x hx
  have:=hown.cells (g:=g) rfl j (.int .u8 x.toNat) (by simp[byteCells,hx])
  exact this
 clear hown hbk hg hl0 hcs
 have Qe9:=Qe9
 go_enter Tryz.func191,Tryz.ntmps191
 go_wp2
 go_region_o
 all_goals(go_wp2;go_ret;exact⟨rfl,rfl⟩)
theorem str_any{b:Nat}{l:Tx}{row:Option Nat}{w:World}(h:Bld b l row w):
  Calls Tryz.prog 191 #[.pointer (some ⟨b,0,none⟩)] w fun e w'=>e= .returned (.string ⟨l.toArray⟩)∧Mv b row w w':=by
 obtain⟨p,v,hp,⟨hbk,hown,hne,hnil⟩,rfl⟩:=h
 by_cases h0:l= []
 ·obtain rfl:=hnil h0
  subst h0
  refine(str_nil hbk).mono ?_
  rintro e w' ⟨rfl,rfl⟩
  exact⟨rfl,rfl,rfl,rfl,Nat.le_refl _,fun _ _ _ _=>rfl⟩
 ·have hown':=hown
  rcases hown.2 with⟨_,hz⟩|⟨g,cap,cur,fz,rfl,hbg,hg,hfz,hnc,hcm,hcs,htake⟩
  ·exact absurd (List.eq_nil_of_length_eq_zero hz) h0
  refine(str_row h0 hbk hown' hg hnc hcm hcs).mono ?_
  rintro e w' ⟨rfl,rfl⟩
  obtain⟨s1,s2,s3,s4⟩:=Qga w.drew ⟨g,0,none⟩ l.length
  refine⟨rfl,s1,s2,s3,Nat.le_of_eq s4.symm,fun k hk hb hr=> ?_⟩
  exact Qf4 w.drew ⟨g,0,none⟩ l.length k (fun e=>hr (by rw[e];rfl))
end Go.Proofs.YtfoiaojdnmpgmaaGreatDoor
namespace Go.Proofs.YtfoiaojdnmpgmaaGreatDoor
open Go Go.Abs
variable {pr:FuncId→Option Qba} {pP:FuncId→Option Qeh} [POK pr] [PPOK pr pP]
theorem QcD{s:Tx}{p:Nat}(h:p<s.length):s[p]? =some (nx s p):=by
 rw[nx,List.getElem?_eq_getElem h];rfl
theorem nx_end{s:Tx}{p:Nat}(h:s.length≤p):nx s p=0:=by
 rw[nx,List.getElem?_eq_none h];rfl
theorem Qhv(a b:Nat):((a:Int)==(b:Int))=decide (a=b):=by
 rw[Bool.eq_iff_iff];simp;omega
theorem Qdl(b:UInt8):Qai b= .int .u8 (b.toNat:Int):=rfl
theorem Qf1(lim:Nat)(H:Qab)(s:Tx)(c:UInt8):Ev (QaE code pr) 162 lim [.d (.str s),.d (.int .u8 c.toNat)] H (.d (.int .i64 (Lib.indexByte s c))) H:=by
 have e0:∀lim,Ev (QaE code pr) 203 lim [.d (.str s),.d (.int .u8 c.toNat)] H (.d (.int .i64 (Lib.indexByte s c))) H:=fun lim=>QeQ (F:=QbI) POK.idx (by
  unfold QbI
  simp)
 have e1:∀lim,Ev (QaE code pr) 189 lim [.d (.str s),.d (.int .u8 c.toNat)] H (.d (.int .i64 (Lib.indexByte s c))) H:=fun lim=>by
  refine Fn.ev ?_
  refine QbU (pn rfl) rfl (show code 189=some c189 from rfl) rfl ?_;simp only[List.length_cons,List.length_nil,List.cons_append,List.nil_append,simprocAttr]
  refine w_s trivial ?_
  refine w_s trivial ?_
  refine w_s trivial ?_
  refine w_1 (e0 H.length) trivial ?_
  refine w_r trivial ?_
  exact Qah rfl rfl ⟨rfl,rfl⟩
 refine Fn.ev ?_
 refine QbU (pn rfl) rfl (show code 162=some c162 from rfl) rfl ?_;simp only[List.length_cons,List.length_nil,List.cons_append,List.nil_append,simprocAttr]
 refine w_s trivial ?_
 refine w_s trivial ?_
 refine w_s trivial ?_
 refine w_1 (e1 H.length) trivial ?_
 refine w_r trivial ?_
 exact Qah rfl rfl ⟨rfl,rfl⟩
theorem Qa8(lim:Nat)(H:Qab)(r:Nat)(s:Tx)(p:Nat)(gr:H[r]? =some (rdO s p))(hp:p≤s.length):Ev (QaE code pr) 163 lim [.ptr r 0] H (.d (.int .u8 (nx s p).toNat)) H:=by
 refine Fn.ev ?_
 refine QbU (pn rfl) rfl (show code 163=some c163 from rfl) rfl ?_;simp only[List.length_cons,List.length_nil,List.cons_append,List.nil_append,simprocAttr]
 by_cases q:p=s.length
 ·have f0:decide (p=s.length)=true:=by simp[q]
  refine w_r (j_ gr (j_ @Qhv f0)) ?_
  rw[nx_end (by omega)]
  exact QaU rfl ⟨rfl,rfl⟩
 ·have f0:decide (p=s.length)=false:=by simp[q]
  have f1:=QcD (s:=s) (p:=p) (by omega)
  refine w_r (j_ gr (j_ @Qhv (j_ f0 f1))) ?_
  exact QaU rfl ⟨rfl,rfl⟩
theorem dig_eq(c:UInt8):Qce c=(decide (48≤c.toNat)&&decide (c.toNat≤57)):=rfl
theorem Qdy(lim:Nat)(H:Qab)(c:UInt8):Ev (QaE code pr) 164 lim [.d (.int .u8 c.toNat)] H (boolD (Qce c)) H:=by
 refine Fn.ev ?_
 refine QbU (pn rfl) rfl (show code 164=some c164 from rfl) rfl ?_;simp only[List.length_cons,List.length_nil,List.cons_append,List.nil_append,simprocAttr]
 have f0:decide ((48:Int)≤(c.toNat:Int))=decide (48≤c.toNat):=by rw[Bool.eq_iff_iff];simp;omega
 have f1:decide ((c.toNat:Int)≤57)=decide (c.toNat≤57):=by rw[Bool.eq_iff_iff];simp;omega
 rw[dig_eq]
 cases h:decide (48≤c.toNat)with
 |true=>
  rw[h]at f0
  refine w_r (j_ f0 f1) ?_
  exact Qah rfl rfl ⟨rfl,rfl⟩
 |false=>
  rw[h]at f0
  refine w_r (j_ f0 f1) ?_
  exact Qah rfl rfl ⟨rfl,rfl⟩
end Go.Proofs.YtfoiaojdnmpgmaaGreatDoor
namespace Go.Proofs.YtfoiaojdnmpgmaaGreatDoor
open Go Go.Abs
variable {pr:FuncId→Option Qba} {pP:FuncId→Option Qeh} [POK pr] [PPOK pr pP]
theorem Qm4(l:Tx)(c:UInt8):decide (Lib.indexByte l c≥0)=l.contains c:=by
 rw[Bool.eq_iff_iff,decide_eq_true_iff]
 induction l with
 |nil=>simp[Lib.indexByte]
 |cons b l ih=>
  have h0:=Lib.indexByte_ge l c
  simp only[Lib.indexByte,List.contains_cons,Bool.or_eq_true,←ih]
  by_cases hb:b=c
  ·subst hb;simp
  ·have h1:¬(b==c)=true:=by simpa using hb
   have h2:¬(c==b)=true:=by simpa using fun h=>hb h.symm
   rw[if_neg h1]
   by_cases hm:Lib.indexByte l c= -1
   ·rw[hm];simp[h2]
   ·have:¬(Lib.indexByte l c== -1)=true:=by simpa using hm
    rw[if_neg this]
    simp only[h2,false_or];omega
theorem blank_in(c:UInt8):([32,9,10,13]:Tx).contains c=Qdd c:=by
 unfold Qdd
 simp only[List.contains_cons,List.contains_nil,Bool.or_false,Bool.or_assoc]
theorem QjT{s:Tx}{p:Nat}(h:p<s.length)(hb:Qdd (nx s p)=true):Qar s p=Qar s (p+1):=by
 unfold Qar
 rw[List.drop_eq_getElem_cons h]
 have:s[p]=nx s p:=by have:=QcD h;rw[List.getElem?_eq_getElem h]at this;exact Option.some.inj this
 rw[this,List.takeWhile_cons_of_pos hb]
 simp;omega
theorem Qgq{s:Tx}{p:Nat}(h:¬(p<s.length∧Qdd (nx s p)=true)):Qar s p=p:=by
 unfold Qar
 by_cases hp:p<s.length
 ·rw[List.drop_eq_getElem_cons hp]
  have:s[p]=nx s p:=by have:=QcD hp;rw[List.getElem?_eq_getElem hp]at this;exact Option.some.inj this
  rw[this,List.takeWhile_cons_of_neg (fun q=>h ⟨hp,q⟩)];rfl
 ·rw[List.drop_eq_nil_of_le (by omega)];rfl
theorem Qns(s:Tx)(p:Nat)(h:p≤s.length):p≤Qar s p∧Qar s p≤s.length:=by
 unfold Qar
 have:=(List.takeWhile_prefix (p:=Qdd) (l:=s.drop p)).length_le
 rw[List.length_drop]at this
 omega
theorem QfI{H:Qab}{r:Nat}{s:Tx}{p:Nat}(gr:H[r]? =some (rdO s p))(q:Nat):(H.set r (rdO s q))[r]? =some (rdO s q):=QiJ _ gr
theorem Qc6(H:Qab)(r:Nat)(a b:AObj):(H.set r a).set r b=H.set r b:=List.set_set ..
theorem Qjn{H:Qab}{r:Nat}{s:Tx}{p:Nat}(gr:H[r]? =some (rdO s p)):H.set r (rdO s p)=H:=by
 obtain⟨h,e⟩:=List.getElem?_eq_some_iff.1 gr
 rw[←e];exact List.set_getElem_self h
theorem Qi5{p:Nat}(h:p<100000):IntKind.i64.wrap ((p:Int)+1)=((p+1:Nat):Int):=QkS (by omega)
theorem QcK(lim:Nat)(H:Qab)(r:Nat)(s:Tx)(p:Nat)(gr:H[r]? =some (rdO s p))(hl:lim≤r)(hp:p≤s.length)(hs:s.length≤16384):Ev (QaE code pr) 117 lim [.ptr r 0] H (.tuple []) (H.set r (rdO s (Qar s p))):=by
 refine Fn.ev ?_
 refine QbU (pn rfl) rfl (show code 117=some c117 from rfl) rfl ?_
 simp only[List.length_cons,List.length_nil,List.cons_append,List.nil_append,simprocAttr]
 refine W_bk ?_
 refine W_lp (fun k st=>∃q,q≤s.length∧k=s.length-q∧Qar s q=Qar s p∧∃x:Nat→AV,st=⟨[.ptr r 0,x 1,x 2,x 3,x 4],H.set r (rdO s q)⟩) ?_ _ _ ⟨p,hp,rfl,rfl,by rw[Qjn gr];exact QaC _ _ _ rfl⟩
 rintro k _ ⟨q,hq,rfl,hb,x,rfl⟩
 have gq:=QfI gr q
 have w1:IntKind.i64.wrap ((q:Int)+1)=((q+1:Nat):Int):=Qi5 (by omega)
 by_cases h0:q<s.length
 ·have f0:decide ((q:Int)<(s.length:Int))=true:=by simp;omega
  have f1:=QcD h0
  have f2:=Qm4 [32,9,10,13] (nx s q)
  rw[blank_in]at f2
  cases hc:Qdd (nx s q)with
  |true=>
   rw[hc]at f2
   (iterate 2 refine w_s trivial ?_)
   (apply Qi3;focus(refine Evl.call (X:=(QaE code pr)) (Qf1 lim (H.set r (rdO s q)) [32,9,10,13] (nx s q)) (Evl.all fun k e1=> ?_);simp(maxSteps:=100000000) only[zz,zd,simprocAttr,gq,f0,f1,f2,Qdl,e1];(first|done|with_reducible exact rfl)))<;>(try simp only[zp,simprocAttr])
   refine w_r (j_ gq (j_ w1 hl)) ?_
   refine⟨s.length-(q+1),by omega,q+1,by omega,rfl,by rw[←hb,QjT h0 hc], ?_⟩
   rw[Qc6]
   exact QaC _ _ _ rfl
  |false=>
   rw[hc]at f2
   (iterate 2 refine w_s trivial ?_)
   (apply Qi3;focus(refine Evl.call (X:=(QaE code pr)) (Qf1 lim (H.set r (rdO s q)) [32,9,10,13] (nx s q)) (Evl.all fun k e1=> ?_);simp(maxSteps:=100000000) only[zz,zd,simprocAttr,gq,f0,f1,f2,Qdl,e1];(first|done|with_reducible exact rfl)))<;>(try simp only[zp,simprocAttr])
   refine w_r trivial ?_
   rw[Qgq (fun k=>by rw[hc]at k;cases k.2)]at hb
   exact Qgt rfl ⟨rfl,by rw[←hb]⟩
 ·have f0:decide ((q:Int)<(s.length:Int))=false:=by simp;omega
  refine w_r (j_ gq f0) ?_
  rw[Qgq (fun k=>h0 k.1)]at hb
  exact Qgt rfl ⟨rfl,by rw[←hb]⟩
end Go.Proofs.YtfoiaojdnmpgmaaGreatDoor
namespace Go.Proofs.YtfoiaojdnmpgmaaGreatDoor
open Go Go.Abs
variable {pr:FuncId→Option Qba} {pP:FuncId→Option Qeh} [POK pr] [PPOK pr pP]
theorem QaW(lim:Nat)(H:Qab)(r e p:Nat):EvP (QbZ code pf pr pP) 119 lim [.ptr r 0,intD e,intD p] H (Qc1 e p):=by
 refine Fv.evP (X:=(QaE code pr)) ?_
 refine QlI (pn rfl) rfl (by first|exact rfl|exact pnP (pr:=pr) rfl) rfl (show code 119=some c119 from rfl) rfl ?_;simp only[List.length_cons,List.length_nil,List.cons_append,List.nil_append,simprocAttr]
 refine Qam ?_
 apply Qa9 2
 ·intro _;simp only[zz,simprocAttr];exact rfl
 ·simp only[List.drop_succ_cons,List.drop_zero]
  exact VO_panic rfl rfl
theorem Qhk(lim:Nat)(H:Qab)(r:Nat)(s:Tx)(p:Nat)(c:UInt8)(gr:H[r]? =some (rdO s p))(hl:lim≤r)(hs:s.length≤16384)(h:s[p]? =some c):Ev (QaE code pr) 190 lim [.ptr r 0,.d (.int .u8 c.toNat)] H (.tuple []) (H.set r (rdO s (p+1))):=by
 refine @Fv.ev _ (QaE code pr) (QbZ code pf pr fun _=>none) _ _ _ _ _ _ ?_
 have hp:=(List.getElem?_eq_some_iff.1 h).1
 have w1:IntKind.i64.wrap ((p:Int)+1)=((p+1:Nat):Int):=Qi5 (by omega)
 have f0:decide (p=s.length)=false:=by simp;omega
 have f1:((c.toNat:Int) !=(c.toNat:Int))=false:=by simp
 refine QlI (pn rfl) rfl (by first|exact rfl|exact pnP (pr:=pr) rfl) rfl (show code 190=some c190 from rfl) rfl ?_;simp only[List.length_cons,List.length_nil,List.cons_append,List.nil_append,simprocAttr]
 (repeat((first|refine QhT ?_|refine QjY ?_|refine QdO ?_|refine Qcm ?_|refine Qcl ?_|(apply Qhg;focus(intro _;simp only[zz,simprocAttr,gr,Qhv,f0,f1,h,Qdl,w1,hl];(first|done|with_reducible exact rfl)))|(refine QjW ?_ ?_;focus(simp only[zp,simprocAttr];done))|(refine QjX ?_ ?_;focus(simp only[zp,simprocAttr];done)))<;>(try simp only[zp,simprocAttr])))
 exact Qgt rfl ⟨rfl,rfl⟩
theorem Qhl(lim:Nat)(H:Qab)(r:Nat)(s:Tx)(p:Nat)(c:UInt8)(gr:H[r]? =some (rdO s p))(hp:p≤s.length)(h:s[p]? ≠some c):EvP (QbZ code pf pr pP) 190 lim [.ptr r 0,.d (.int .u8 c.toNat)] H (Qc1 11 p):=by
 refine Fv.evP (X:=(QaE code pr)) ?_
 refine QlI (pn rfl) rfl (by first|exact rfl|exact pnP (pr:=pr) rfl) rfl (show code 190=some c190 from rfl) rfl ?_;simp only[List.length_cons,List.length_nil,List.cons_append,List.nil_append,simprocAttr]
 by_cases q:p=s.length
 ·have f0:decide (p=s.length)=true:=by simp[q]
  (iterate 4 refine v_s (j_ gr (j_ @Qhv f0)) ?_)
  refine Qam ?_;apply Qa9 3;(focus(intro _;simp only[zz,simprocAttr,gr];(first|done|with_reducible exact rfl)));simp only[List.drop_succ_cons,List.drop_zero];refine Qay rfl ?_;simp only[zz,simprocAttr]
  exact EvP.fv (QaW _ _ r 11 p) rfl
 ·have f0:decide (p=s.length)=false:=by simp[q]
  have f1:=QcD (s:=s) (p:=p) (by omega)
  have f2:(((nx s p).toNat:Int) !=(c.toNat:Int))=true:=by
   simp only[bne_iff_ne,ne_eq]
   intro e
   have:(nx s p).toNat=c.toNat:=by omega
   exact h (by rw[f1,UInt8.toNat_inj.1 this])
  (iterate 4 ((first|refine QhT ?_|refine QjY ?_|refine QdO ?_|refine Qcm ?_|refine Qcl ?_|(apply Qhg;focus(intro _;simp only[zz,simprocAttr,gr,Qhv,f0,f1,f2,Qdl];(first|done|with_reducible exact rfl)))|(refine QjW ?_ ?_;focus(simp only[zp,simprocAttr];done))|(refine QjX ?_ ?_;focus(simp only[zp,simprocAttr];done)))<;>(try simp only[zp,simprocAttr])))
  refine Qam ?_;apply Qa9 3;(focus(intro _;simp only[zz,simprocAttr,gr];(first|done|with_reducible exact rfl)));simp only[List.drop_succ_cons,List.drop_zero];refine Qay rfl ?_;simp only[zz,simprocAttr]
  exact EvP.fv (QaW _ _ r 11 p) rfl
end Go.Proofs.YtfoiaojdnmpgmaaGreatDoor
namespace Go.Proofs.YtfoiaojdnmpgmaaGreatDoor
open Go Go.Abs
variable {pr:FuncId→Option Qba} {pP:FuncId→Option Qeh} [POK pr] [PPOK pr pP]
theorem Qb2(s:Tx)(c:UInt8)(p:Nat):(s[p]? =some c∧Qem s c p= .ok (p+1))∨(s[p]? ≠some c∧Qem s c p= .error (11,p)):=by
 unfold Qem
 by_cases h:s[p]? =some c
 ·exact .inl ⟨h,by rw[if_pos h]⟩
 ·exact .inr ⟨h,by rw[if_neg h]⟩
abbrev flatD(k n:Int):D:= .agg [.int .i64 k,.int .i64 n,.str [],.slice [],.slice []]
abbrev flatC(k n:Int):List AV:= [intD k,intD n,.d (.str []),.fslice [],.fslice []]
theorem Qj0{s:Tx}:∀ {w:Tx} {p:Nat},(∀j,j<w.length→s[p+j]? =w[j]?)→QdB s w p= .ok (p+w.length)
 | [],p,_=>rfl
 |c::w,p,h=>by
  unfold QdB
  have h0:=h 0 (by simp)
  rcases Qb2 s c p with⟨h1,h2⟩|⟨h1,h2⟩
  ·rw[h2]
   have:=Qj0 (s:=s) (w:=w) (p:=p+1) fun j hj=>by
    have:=h (j+1) (by simpa using hj)
    rw[show p+1+j=p+(j+1) by omega,this];simp
   simp only[this,List.length_cons]
   rw[show p+1+w.length=p+(w.length+1) by omega]
  ·exact absurd (by simpa using h0) h1
theorem QlO{s:Tx}:∀ {w:Tx} {p i:Nat},i<w.length→(∀j,j<i→s[p+j]? =w[j]?)→s[p+i]? ≠w[i]? →QdB s w p= .error (11,p+i)
 | [],p,i,hi,_,_=>by cases hi
 |c::w,p,0,_,_,hn=>by
  unfold QdB
  rcases Qb2 s c p with⟨h1,h2⟩|⟨h1,h2⟩
  ·exact absurd (by simpa using h1) hn
  ·rw[h2];rfl
 |c::w,p,i+1,hi,h,hn=>by
  unfold QdB
  have h0:=h 0 (by omega)
  rcases Qb2 s c p with⟨h1,h2⟩|⟨h1,h2⟩
  ·rw[h2]
   have:=QlO (s:=s) (w:=w) (p:=p+1) (i:=i) (by simpa using hi) (fun j hj=>by
    have:=h (j+1) (by omega)
    rw[show p+1+j=p+(j+1) by omega,this];simp) (by rw[show p+1+i=p+(i+1) by omega];simpa using hn)
   simp only[this]
   rw[show p+1+i=p+(i+1) by omega]
  ·exact absurd (by simpa using h0) h1
theorem two_more{H:Qab}{r:Nat}{o:AObj}(gr:H[r]? =some o)(A B:AObj):∃KK:AObj→AObj→Qab,(∀x y,KK x y=H.set r x++ [A,y])∧KK o B=H++ [A,B]∧(∀x y,(KK x y)[r]? =some x)∧(∀x y,(KK x y)[H.length]? =some A)∧(∀x y,(KK x y)[H.length+1]? =some y)∧
  (∀x x' y,(KK x y).set r x'=KK x' y)∧∀x y y',(KK x y).set (H.length+1) y'=KK x y':=by
 obtain⟨hr,e⟩:=List.getElem?_eq_some_iff.1 gr
 refine⟨fun x y=>H.set r x++ [A,y],fun _ _=>rfl, ?_,fun x y=> ?_,fun x y=> ?_,fun x y=> ?_,fun x x' y=> ?_,fun x y y'=> ?_⟩
 ·simp only;rw[←e,List.set_getElem_self hr]
 ·simp only;rw[List.getElem?_append_left (by simpa using hr)];simp[hr]
 ·simp only;rw[List.getElem?_append_right (by simp)];simp
 ·simp only;rw[List.getElem?_append_right (by simp)];simp
 ·simp only;rw[List.set_append_left _ _ (by simpa using hr),List.set_set]
 ·simp only;rw[List.set_append_right _ _ (by simp)];simp
theorem len_app2(H:Qab)(A:AObj):(H++ [A]).length=H.length+1:=by simp
theorem app2(H:Qab)(A B:AObj):H++ [A]++ [B]=H++ [A,B]:=by simp
theorem Qi7(lim:Nat)(H:Qab)(r:Nat)(s:Tx)(p:Nat)(w:Tx)(k n:Int)(gr:H[r]? =some (rdO s p))(hl:lim≤r)(hs:s.length≤16384)(hw:w.length≤10)(hp:p≤s.length):
  Fv (QaE code pr) (QbZ code pf pr pP) 168 lim [.ptr r 0,.d (.str w),.agg [intD k,intD n,.d (.str []),.fslice [],.fslice []]] H (fun v H'=>∃q,QdB s w p= .ok q∧v= .d (flatD k n)∧H'=H.set r (rdO s q)) (fun z=>∃e,QdB s w p= .error e∧z=Qc1 e.1 e.2):=by
 refine QkR (pn rfl) rfl (by first|exact rfl|exact pnP (pr:=pr) rfl) rfl (show code 168=some c168 from rfl) rfl ?_;simp only[List.length_cons,List.length_nil,List.cons_append,List.nil_append,simprocAttr]
 obtain⟨KK,kk0,kk1,kk2,kk3,kk4,kk5,kk6⟩:=two_more gr (.cells (flatC k n)) (.cells [intD 0,intD 0,.d (.str []),.fslice [],.fslice []])
 (iterate 4 refine v_s (j_ @len_app2 @app2) ?_)
 rw[←kk1]
 (iterate 2 refine v_s trivial ?_)
 refine V_lp (fun m st=>∃i,i≤w.length∧m=w.length-i∧(∀j,j<i→s[p+j]? =w[j]?)∧∃x:Nat→AV,st=⟨[.ptr r 0,.d (.str w),x 2,x 3,.ptr (H.length+1) 0,.ptr H.length 0,intD w.length,intD i,x 8,x 9],KK (rdO s (p+i)) (.cells [intD 0,intD 0,.d (.str []),.fslice [],.fslice []])⟩) ?_ _ _ ⟨0,Nat.zero_le _,rfl,fun j hj=>by omega,QaC _ _ _ rfl⟩
 rintro m _ ⟨i,hi,rfl,hm,x,rfl⟩
 have gi:=kk2 (rdO s (p+i)) (.cells [intD 0,intD 0,.d (.str []),.fslice [],.fslice []])
 by_cases h0:i<w.length
 ·have f0:decide ((i:Int)<(w.length:Int))=true:=by simp;omega
  have w1:IntKind.i64.wrap ((i:Int)+1)=((i+1:Nat):Int):=Qi5 (by omega)
  have hc:=QcD h0
  by_cases h1:s[p+i]? =w[i]?
  ·rw[hc]at h1
   (repeat((first|refine QhT ?_|refine QjY ?_|refine QdO ?_|refine Qcm ?_|refine Qcl ?_|(apply Qhg;focus(intro _;simp only[zz,simprocAttr,f0,hc,Qdl];(first|done|with_reducible exact rfl)))|(refine QjW ?_ ?_;focus(simp only[zp,simprocAttr];done))|(refine QjX ?_ ?_;focus(simp only[zp,simprocAttr];done)))<;>(try simp only[zp,simprocAttr])))
   refine Qam ?_;apply Qa9 1;(focus(intro _;simp only[zz,simprocAttr,hc,Qdl];(first|done|with_reducible exact rfl)));simp only[List.drop_succ_cons,List.drop_zero];refine Qay rfl ?_;simp only[zz,simprocAttr];refine Ev.fv (Qhk _ _ r s (p+i) (nx w i) gi hl hs h1) ?_
   (apply QnE;(focus(intro _;simp only[zz,simprocAttr];(first|done|with_reducible exact rfl))))<;>(try simp only[zp,simprocAttr])
   refine v_r (j_ w1 kk5) ?_
   refine⟨w.length-(i+1),by omega,i+1,h0,rfl,fun j hj=> ?_,QaC _ _ _ rfl⟩
   rcases Nat.lt_or_ge j i with hji|hji
   ·exact hm j hji
   ·obtain rfl:j=i:=by omega
    rw[h1,hc]
  ·(repeat((first|refine QhT ?_|refine QjY ?_|refine QdO ?_|refine Qcm ?_|refine Qcl ?_|(apply Qhg;focus(intro _;simp only[zz,simprocAttr,f0,hc,Qdl];(first|done|with_reducible exact rfl)))|(refine QjW ?_ ?_;focus(simp only[zp,simprocAttr];done))|(refine QjX ?_ ?_;focus(simp only[zp,simprocAttr];done)))<;>(try simp only[zp,simprocAttr])))
   refine Qam ?_
   apply Qa9 1
   ·intro _;simp only[zz,simprocAttr,hc,Qdl];with_reducible exact rfl
   ·simp only[List.drop_succ_cons,List.drop_zero]
    refine Qay rfl ?_
    simp only[zz,simprocAttr]
    have hpi:p+i≤s.length:=by
     cases i with
     |zero=>exact hp
     |succ i=>
      have h2:=hm i (by omega)
      rw[List.getElem?_eq_getElem (show i<w.length by omega)]at h2
      have:=(List.getElem?_eq_some_iff.1 h2).1
      omega
    exact EvP.fv (Qhl _ _ r s (p+i) (nx w i) gi hpi (by rw[←hc];exact h1)) ⟨(11,p+i),QlO h0 hm (by rw[hc,←hc];exact h1),rfl⟩
 ·obtain rfl:i=w.length:=by omega
  have f0:decide ((w.length:Int)<(w.length:Int))=false:=by simp
  have hl2:lim≤H.length+1:=by have:=(List.getElem?_eq_some_iff.1 gr).1;omega
  refine v_r (j_ f0 (j_ kk3 (j_ kk4 (j_ kk6 hl2)))) ?_
  refine QbC (vs:= [.d (flatD k n)]) ?_ (kk0 _ _) (List.getElem?_eq_some_iff.1 gr).1 rfl rfl ⟨p+w.length,Qj0 hm,rfl,rfl⟩
  simp only[Qbw,zz,simprocAttr,kk4]
end Go.Proofs.YtfoiaojdnmpgmaaGreatDoor
namespace Go.Proofs.YtfoiaojdnmpgmaaGreatDoor
open Go Go.Abs
variable {pr:FuncId→Option Qba} {pP:FuncId→Option Qeh} [POK pr] [PPOK pr pP]
abbrev HX:Tx:= [48,49,50,51,52,53,54,55,56,57,97,98,99,100,101,102,65,66,67,68,69,70]
def Qm6(c:UInt8):Bool:=match hexV c with
 |none=>decide (Lib.indexByte HX c<0)
 |some v=>decide (v<16)&&(decide (Lib.indexByte HX c=v)||(decide (15<Lib.indexByte HX c)&&decide (Lib.indexByte HX c=v+6)))&&(decide (Lib.indexByte HX c≤15)||decide (Lib.indexByte HX c=v+6))
theorem hex_all:∀i:Fin 256,Qm6 (UInt8.ofNat i.val)=true:=by decide+kernel
theorem hex_ok(c:UInt8):Qm6 c=true:=by
 have:=hex_all ⟨c.toNat,c.toNat_lt⟩
 simpa using this
theorem i32n(a:Nat)(h:a<2147483648):IntKind.i32.wrap (a:Int)=a:=w32 (by omega) (by omega)
theorem shl4(n:Nat)(h:n<65536):QbH .shl .i32 (n:Int) 4=some (.int .i32 ((n*16:Nat):Int)):=by
 have h1:QbH .shl .i32 (n:Int) 4=some (.int .i32 (IntKind.i32.wrap ((n:Int)*2^4))):=rfl
 have:(n:Int)*2^4=((n*16:Nat):Int):=by omega
 rw[h1,this,i32n _ (by omega)]
theorem or4(n v:Nat)(h:n<65536)(hv:v<16):QbW .or .i32 ((n*16:Nat):Int) (v:Int)=some (.int .i32 ((n*16+v:Nat):Int)):=by
 have h1:QbW .or .i32 ((n*16:Nat):Int) (v:Int)=some (.int .i32 (IntKind.i32.wrap ((BitVec.ofInt 32 ((n*16:Nat):Int)|||BitVec.ofInt 32 (v:Int)).toNat:Nat))):=rfl
 have e:=Nat.shiftLeft_add_eq_or_of_lt (i:=4) (b:=v) (by omega) n
 rw[Nat.shiftLeft_eq]at e
 rw[h1,Qiu,Qiu,BitVec.toNat_or,BitVec.toNat_ofNat,BitVec.toNat_ofNat,Nat.mod_eq_of_lt (a:=n*16) (show n*16<2^32 by omega),Nat.mod_eq_of_lt (a:=v) (show v<2^32 by omega),←e,i32n _ (by omega)]
theorem Qgk:∀ {k n p m q:Nat} {s:Tx},Qcp s k n p= .ok (m,q)→m<(n+1)*16^k∧q=p+k∧(p≤s.length→q≤s.length)
 |0,n,p,m,q,s,h=>by unfold Qcp at h;cases h;exact⟨by omega,by omega,fun h=>h⟩
 |k+1,n,p,m,q,s,h=>by
  unfold Qcp at h
  split at h
  ·cases h
  ·rename_i c hc
   split at h
   ·cases h
   ·rename_i v hv
    obtain⟨h1,h2,h3⟩:=Qgk h
    have hk:=hex_ok c
    unfold Qm6 at hk
    rw[hv]at hk
    simp only[Bool.and_eq_true,decide_eq_true_eq]at hk
    have:=(List.getElem?_eq_some_iff.1 hc).1
    refine⟨?_,by omega,fun _=>h3 (by omega)⟩
    have h4:(16*n+v+1)*16^k≤(n+1)*16*16^k:=Nat.mul_le_mul_right _ (by omega)
    rw[Nat.pow_succ,Nat.mul_comm (16^k) 16,←Nat.mul_assoc]
    omega
abbrev i32D(n:Int):AV:= .d (.int .i32 n)
theorem Qno(lim:Nat)(H:Qab)(r:Nat)(s:Tx)(p:Nat)(gr:H[r]? =some (rdO s p))(hl:lim≤r)(hs:s.length≤16384)(hp:p≤s.length):
  Fv (QaE code pr) (QbZ code pf pr pP) 206 lim [.ptr r 0] H (fun v H'=>∃n q,Qcp s 4 0 p= .ok (n,q)∧v=i32D n∧H'=H.set r (rdO s q)) (fun z=>∃e,Qcp s 4 0 p= .error e∧z=Qc1 e.1 e.2):=by
 refine QlI (pn rfl) rfl (by first|exact rfl|exact pnP (pr:=pr) rfl) rfl (show code 206=some c206 from rfl) rfl ?_;simp only[List.length_cons,List.length_nil,List.cons_append,List.nil_append,simprocAttr]
 refine v_r trivial ?_
 refine V_lp (fun m st=>∃i n,i≤4∧m=4-i∧n<16^i∧p+i≤s.length∧Qcp s 4 0 p=Qcp s (4-i) n (p+i)∧∃x:Nat→AV,st=⟨[.ptr r 0,x 1,x 2,x 3,x 4,i32D n,intD i,x 7,x 8,x 9],H.set r (rdO s (p+i))⟩) ?_ _ _ ⟨0,0,by omega,rfl,by simp,hp,rfl,Qe4 (Qjn gr).symm rfl⟩
 rintro m _ ⟨i,n,hi,rfl,hn,hpi,hc,x,rfl⟩
 have gi:=QfI gr (p+i)
 by_cases h0:i<4
 ·have f0:decide ((i:Int)<4)=true:=by simp;omega
  have w1:IntKind.i64.wrap ((i:Int)+1)=((i+1:Nat):Int):=Qi5 (by omega)
  have hk:=hex_ok (nx s (p+i))
  have hn2:n<65536:=Nat.lt_of_lt_of_le hn (Nat.pow_le_pow_right (by omega) (show i≤4 by omega))
  by_cases h1:p+i=s.length
  ·have f1:decide (p+i=s.length)=true:=by simp[h1]
   have he:Qcp s (4-i) n (p+i)= .error (11,p+i):=by
    rw[show 4-i=(3-i)+1 by omega];unfold Qcp
    rw[List.getElem?_eq_none (by omega)]
   refine v_r f0 ?_
   (apply QaP;focus(refine Evl.call (X:=(QaE code pr)) (Qa8 lim (H.set r (rdO s (p+i))) r s (p+i) gi hpi) (Evl.call (X:=(QaE code pr)) (Qf1 lim (H.set r (rdO s (p+i))) HX (nx s (p+i))) (Evl.all fun k e2 e1=> ?_));simp(maxSteps:=100000000) only[zz,zd,simprocAttr,e2,e1];(first|done|with_reducible exact rfl)))<;>(try simp only[zp,simprocAttr])
   refine v_r (j_ gi (j_ @Qhv f1)) ?_
   refine Qam ?_;apply Qa9 3;(focus(intro _;simp only[zz,simprocAttr,gi];(first|done|with_reducible exact rfl)));simp only[List.drop_succ_cons,List.drop_zero];refine Qay rfl ?_;simp only[zz,simprocAttr]
   exact EvP.fv (QaW _ _ r 11 (p+i)) ⟨_,by rw[hc,he],rfl⟩
  ·have f1:decide (p+i=s.length)=false:=by simp[h1]
   have hat:=QcD (s:=s) (p:=p+i) (by omega)
   cases hv:hexV (nx s (p+i))with
   |none=>
    unfold Qm6 at hk
    rw[hv]at hk
    have he:Qcp s (4-i) n (p+i)= .error (11,p+i):=by
     rw[show 4-i=(3-i)+1 by omega];unfold Qcp
     rw[hat];simp only[hv]
    refine v_r f0 ?_
    (apply QaP;focus(refine Evl.call (X:=(QaE code pr)) (Qa8 lim (H.set r (rdO s (p+i))) r s (p+i) gi hpi) (Evl.call (X:=(QaE code pr)) (Qf1 lim (H.set r (rdO s (p+i))) HX (nx s (p+i))) (Evl.all fun k e2 e1=> ?_));simp(maxSteps:=100000000) only[zz,zd,simprocAttr,e2,e1];(first|done|with_reducible exact rfl)))<;>(try simp only[zp,simprocAttr])
    refine v_r (j_ gi (j_ @Qhv (j_ f1 hk))) ?_
    refine Qam ?_;apply Qa9 3;(focus(intro _;simp only[zz,simprocAttr,gi];(first|done|with_reducible exact rfl)));simp only[List.drop_succ_cons,List.drop_zero];refine Qay rfl ?_;simp only[zz,simprocAttr]
    exact EvP.fv (QaW _ _ r 11 (p+i)) ⟨_,by rw[hc,he],rfl⟩
   |some v=>
    unfold Qm6 at hk
    rw[hv]at hk
    simp only[Bool.and_eq_true,Bool.or_eq_true,decide_eq_true_eq]at hk
    obtain⟨⟨hv16,hk1⟩,hk2⟩:=hk
    have he:Qcp s (4-i) n (p+i)=Qcp s (4-(i+1)) (16*n+v) (p+(i+1)):=by
     rw[show 4-i=(3-i)+1 by omega,show 4-(i+1)=3-i by omega]
     conv=>lhs;unfold Qcp
     rw[hat];simp only[hv];rfl
    have f2:decide (Lib.indexByte HX (nx s (p+i))<0)=false:=by simp;omega
    have s4:=shl4 n hn2
    have o4:=or4 n v hn2 hv16
    have wv:IntKind.i32.wrap (v:Int)=v:=i32n v (by omega)
    have wp:IntKind.i64.wrap (((p+i:Nat):Int)+1)=((p+(i+1):Nat):Int):=by rw[Qi5 (by omega)];rfl
    have hn3:n*16+v<16^(i+1):=by rw[Nat.pow_succ];omega
    refine v_r f0 ?_
    (apply QaP;focus(refine Evl.call (X:=(QaE code pr)) (Qa8 lim (H.set r (rdO s (p+i))) r s (p+i) gi hpi) (Evl.call (X:=(QaE code pr)) (Qf1 lim (H.set r (rdO s (p+i))) HX (nx s (p+i))) (Evl.all fun k e2 e1=> ?_));simp(maxSteps:=100000000) only[zz,zd,simprocAttr,e2,e1];(first|done|with_reducible exact rfl)))<;>(try simp only[zp,simprocAttr])
    rcases Int.lt_or_le 15 (Lib.indexByte HX (nx s (p+i)))with h2|h2
    ·have e6:Lib.indexByte HX (nx s (p+i))=v+6:=by rcases hk1 with h|h<;>rcases hk2 with h'|h'<;>omega
     have f3:decide (Lib.indexByte HX (nx s (p+i))>15)=true:=by simp;omega
     have w2:IntKind.i64.wrap (Lib.indexByte HX (nx s (p+i))-6)=(v:Int):=by rw[e6,w64 (by omega) (by omega)];omega
     (repeat((first|refine QhT ?_|refine QjY ?_|refine QdO ?_|refine Qcm ?_|refine Qcl ?_|(apply Qhg;focus(intro _;simp only[zz,simprocAttr,gi,Qhv,f1,f2,f3,w2,s4,o4,wv,wp,hl,Qc6,w1];(first|done|with_reducible exact rfl)))|(refine QjW ?_ ?_;focus(simp only[zp,simprocAttr];done))|(refine QjX ?_ ?_;focus(simp only[zp,simprocAttr];done)))<;>(try simp only[zp,simprocAttr])))
     refine⟨4-(i+1),by omega,i+1,n*16+v,by omega,rfl,hn3,by omega,by rw[hc,he,Nat.mul_comm 16 n],QaC _ _ _ rfl⟩
    ·have e6:Lib.indexByte HX (nx s (p+i))=v:=by rcases hk1 with h|h<;>rcases hk2 with h'|h'<;>omega
     have f3:decide (Lib.indexByte HX (nx s (p+i))>15)=false:=by simp;omega
     refine v_r (j_ gi (j_ @Qhv (j_ f1 (j_ f2 f3)))) ?_
     (repeat((first|refine QhT ?_|refine QjY ?_|refine QdO ?_|refine Qcm ?_|refine Qcl ?_|(apply Qhg;focus(intro _;simp only[zz,simprocAttr,gi,e6,s4,o4,wv,wp,hl,Qc6,w1];(first|done|with_reducible exact rfl)))|(refine QjW ?_ ?_;focus(simp only[zp,simprocAttr];done))|(refine QjX ?_ ?_;focus(simp only[zp,simprocAttr];done)))<;>(try simp only[zp,simprocAttr])))
     refine⟨4-(i+1),by omega,i+1,n*16+v,by omega,rfl,hn3,by omega,by rw[hc,he,Nat.mul_comm 16 n],QaC _ _ _ rfl⟩
 ·obtain rfl:i=4:=by omega
  have f0:decide (((4:Nat):Int)<4)=false:=by simp
  refine v_r f0 ?_
  exact QaU rfl ⟨n,p+4,by rw[hc];rfl,rfl,rfl⟩
end Go.Proofs.YtfoiaojdnmpgmaaGreatDoor
namespace Go.Proofs.YtfoiaojdnmpgmaaGreatDoor
open Go Go.Abs
variable {pr:FuncId→Option Qba} {pP:FuncId→Option Qeh} [POK pr] [PPOK pr pP]
theorem Qmo(lim:Nat)(H:Qab)(a b:Tx)(ha:a.length≤16384):Ev (QaE code pr) 207 lim [.d (.str a),.d (.str b)] H (boolD (b.isPrefixOf a)) H:=by
 have e1:∀lim,Ev (QaE code pr) 208 lim [.d (.str a),.d (.str b)] H (boolD (b.isPrefixOf a)) H:=fun lim=>by
  refine Fn.ev ?_
  refine QbU (pn rfl) rfl (show code 208=some c208 from rfl) rfl ?_;simp only[List.length_cons,List.length_nil,List.cons_append,List.nil_append,simprocAttr]
  by_cases h:b.length≤a.length
  ·have f0:decide ((a.length:Int)≥(b.length:Int))=true:=by simp;omega
   have f1:((b.length:Int)≤(a.length:Int))=True:=eq_true (by omega)
   have f2:(a.take b.length==b)=b.isPrefixOf a:=by
    rw[Bool.eq_iff_iff]
    simp only[beq_iff_eq,List.isPrefixOf_iff_prefix]
    exact⟨fun h=>⟨a.drop b.length,(congrArg (· ++a.drop b.length) h.symm).trans (List.take_append_drop _ _)⟩,fun⟨t,ht⟩=>by rw[←ht];simp⟩
   refine w_r (j_ f0 (j_ f1 f2)) ?_
   exact Qah rfl rfl ⟨rfl,rfl⟩
  ·have f0:decide ((a.length:Int)≥(b.length:Int))=false:=by simp;omega
   have f2:b.isPrefixOf a=false:=by
    rw[Bool.eq_false_iff]
    intro hp
    have:=(List.isPrefixOf_iff_prefix.1 hp).length_le
    omega
   refine w_r f0 ?_
   exact Qah rfl rfl ⟨by rw[f2],rfl⟩
 refine Fn.ev ?_
 refine QbU (pn rfl) rfl (show code 207=some c207 from rfl) rfl ?_;simp only[List.length_cons,List.length_nil,List.cons_append,List.nil_append,simprocAttr]
 (iterate 3 refine w_s trivial ?_)
 refine w_1 (e1 H.length) trivial ?_
 refine w_r trivial ?_
 exact Qah rfl rfl ⟨rfl,rfl⟩
abbrev EX:Tx:= [34,92,47,98,102,110,114,116,117]
theorem idx_lt(l:Tx)(c:UInt8):decide (Lib.indexByte l c<0)= !l.contains c:=by
 rw[←Qm4,Bool.eq_iff_iff];simp
theorem QkI{s:Tx}{p:Nat}(h:s[p]? =none∨∃c,s[p]? =some c∧EX.contains c=false):QgA s p= .error (11,p):=by
 unfold QgA
 rcases h with h|⟨c,h,hc⟩
 ·rw[h]
 ·rw[h]
  simp only[List.contains_cons,List.contains_nil,Bool.or_false,Bool.or_eq_false_iff,beq_eq_false_iff_ne,ne_eq]at hc
  obtain⟨h1,h2,h3,h4,h5,h6,h7,h8,h9⟩:=hc
  simp only[h1,h2,h3,h4,h5,h6,h7,h8,h9,or_self,if_false]
theorem esc_u{s:Tx}{p:Nat}(h:s[p]? =some 117):QgA s p=match Qcp s 4 0 (p+1)with
  |.error e=> .error e
  |.ok (n,p')=>if n<55296∨57343<n then .ok (n,p')
   else if 56320≤n∨¬(s[p']? =some 92∧s[p'+1]? =some 117)then .error (11,p-1)
   else match Qcp s 4 0 (p'+2)with
    |.error e=> .error e
    |.ok (m,q)=>if m<56320∨57343<m then .error (11,p-1)else .ok (65536+(n-55296)*1024+(m-56320),q):=by
 conv=>lhs;unfold QgA
 rw[h];rfl
theorem pre_two(s:Tx)(q:Nat):([92,117]:Tx).isPrefixOf (s.drop q)=decide (s[q]? =some 92∧s[q+1]? =some 117):=by
 have e0:s[q]? =(s.drop q)[0]? :=by simp
 have e1:s[q+1]? =(s.drop q)[1]? :=by simp
 rw[e0,e1]
 rcases s.drop q with _|⟨a,_|⟨b,l⟩⟩
 ·rfl
 ·simp[List.isPrefixOf]
 ·simp only[List.isPrefixOf,Bool.and_true,List.getElem?_cons_zero,List.getElem?_cons_succ,Option.some.injEq]
  rw[Bool.eq_iff_iff];simp only[Bool.and_eq_true,beq_iff_eq,decide_eq_true_eq]
  exact⟨fun⟨h1,h2⟩=>⟨h1.symm,h2.symm⟩,fun⟨h1,h2⟩=>⟨h1.symm,h2.symm⟩⟩
theorem shl10(n:Nat)(h:n<65536):QbH .shl .i32 (n:Int) 10=some (.int .i32 ((n*1024:Nat):Int)):=by
 have h1:QbH .shl .i32 (n:Int) 10=some (.int .i32 (IntKind.i32.wrap ((n:Int)*2^10))):=rfl
 have:(n:Int)*2^10=((n*1024:Nat):Int):=by omega
 rw[h1,this,i32n _ (by omega)]
theorem esc_ev(lim:Nat)(H:Qab)(r:Nat)(s:Tx)(p:Nat)(gr:H[r]? =some (rdO s p))(hl:lim≤r)(hs:s.length≤16384)(hp:p≤s.length)(h1:1≤p):
  Fv (QaE code pr) (QbZ code pf pr pP) 193 lim [.ptr r 0] H (fun v H'=>∃n q,QgA s p= .ok (n,q)∧v=i32D n∧H'=H.set r (rdO s q)) (fun z=>∃e,QgA s p= .error e∧z=Qc1 e.1 e.2):=by
 have wm:IntKind.i64.wrap ((p:Int)-1)=((p-1:Nat):Int):=by rw[w64 (by omega) (by omega)];omega
 have wp:IntKind.i64.wrap ((p:Int)+1)=((p+1:Nat):Int):=Qi5 (by omega)
 have gp:=QfI gr (p+1)
 have f2:=idx_lt EX (nx s p)
 refine QlI (pn rfl) rfl (by first|exact rfl|exact pnP (pr:=pr) rfl) rfl (show code 193=some c193 from rfl) rfl ?_;simp only[List.length_cons,List.length_nil,List.cons_append,List.nil_append,simprocAttr]
 refine v_r (j_ gr wm) ?_
 (apply QaP;focus(refine Evl.call (X:=(QaE code pr)) (Qa8 lim H r s p gr hp) (Evl.all fun k e1=> ?_);simp(maxSteps:=100000000) only[zz,zd,simprocAttr,e1];(first|done|with_reducible exact rfl)))<;>(try simp only[zp,simprocAttr])
 refine v_r trivial ?_
 (apply QaP;focus(refine Evl.call (X:=(QaE code pr)) (Qf1 lim H EX (nx s p)) (Evl.all fun k e1=> ?_);simp(maxSteps:=100000000) only[zz,zd,simprocAttr,e1];(first|done|with_reducible exact rfl)))<;>(try simp only[zp,simprocAttr])
 by_cases hq:p=s.length
 ·have f1:decide (p=s.length)=true:=by simp[hq]
  refine v_r (j_ gr (j_ @Qhv f1)) ?_
  refine Qam ?_;apply Qa9 3;(focus(intro _;simp only[zz,simprocAttr,gr];(first|done|with_reducible exact rfl)));simp only[List.drop_succ_cons,List.drop_zero];refine Qay rfl ?_;simp only[zz,simprocAttr]
  exact EvP.fv (QaW _ _ r 11 p) ⟨_,QkI (.inl (List.getElem?_eq_none (by omega))),rfl⟩
 have f1:decide (p=s.length)=false:=by simp[hq]
 have hat:=QcD (s:=s) (p:=p) (by omega)
 cases hc:EX.contains (nx s p)with
 |false=>
  rw[hc]at f2
  refine v_r (j_ gr (j_ @Qhv (j_ f1 f2))) ?_
  refine Qam ?_;apply Qa9 3;(focus(intro _;simp only[zz,simprocAttr,gr];(first|done|with_reducible exact rfl)));simp only[List.drop_succ_cons,List.drop_zero];refine Qay rfl ?_;simp only[zz,simprocAttr]
  exact EvP.fv (QaW _ _ r 11 p) ⟨_,QkI (.inr ⟨_,hat,hc⟩),rfl⟩
 |true=>
  rw[hc]at f2
  have hin:nx s p=34∨nx s p=92∨nx s p=47∨nx s p=98∨nx s p=102∨nx s p=110∨nx s p=114∨nx s p=116∨nx s p=117:=by simpa using hc
  refine v_r (j_ gr (j_ @Qhv (j_ f1 f2))) ?_
  rcases hin with e|e|e|e|e|e|e|e|e
  ·have ec:((nx s p).toNat:Int)=34:=by rw[e];rfl
   have wc:IntKind.i32.wrap 34=34:=by decide
   refine v_r (j_ gr (j_ wp (j_ hl (j_ ec wc)))) ?_
   exact QaU rfl ⟨34,p+1,by unfold QgA;rw[hat,e];rfl,rfl,rfl⟩
  ·have ec:((nx s p).toNat:Int)=92:=by rw[e];rfl
   have wc:IntKind.i32.wrap 92=92:=by decide
   refine v_r (j_ gr (j_ wp (j_ hl (j_ ec wc)))) ?_
   exact QaU rfl ⟨92,p+1,by unfold QgA;rw[hat,e];rfl,rfl,rfl⟩
  ·have ec:((nx s p).toNat:Int)=47:=by rw[e];rfl
   have wc:IntKind.i32.wrap 47=47:=by decide
   refine v_r (j_ gr (j_ wp (j_ hl (j_ ec wc)))) ?_
   exact QaU rfl ⟨47,p+1,by unfold QgA;rw[hat,e];rfl,rfl,rfl⟩
  ·have ec:((nx s p).toNat:Int)=98:=by rw[e];rfl
   have wc:IntKind.i32.wrap 98=98:=by decide
   refine v_r (j_ gr (j_ wp (j_ hl (j_ ec wc)))) ?_
   exact QaU rfl ⟨8,p+1,by unfold QgA;rw[hat,e];rfl,rfl,rfl⟩
  ·have ec:((nx s p).toNat:Int)=102:=by rw[e];rfl
   have wc:IntKind.i32.wrap 102=102:=by decide
   refine v_r (j_ gr (j_ wp (j_ hl (j_ ec wc)))) ?_
   exact QaU rfl ⟨12,p+1,by unfold QgA;rw[hat,e];rfl,rfl,rfl⟩
  ·have ec:((nx s p).toNat:Int)=110:=by rw[e];rfl
   have wc:IntKind.i32.wrap 110=110:=by decide
   refine v_r (j_ gr (j_ wp (j_ hl (j_ ec wc)))) ?_
   exact QaU rfl ⟨10,p+1,by unfold QgA;rw[hat,e];rfl,rfl,rfl⟩
  ·have ec:((nx s p).toNat:Int)=114:=by rw[e];rfl
   have wc:IntKind.i32.wrap 114=114:=by decide
   refine v_r (j_ gr (j_ wp (j_ hl (j_ ec wc)))) ?_
   exact QaU rfl ⟨13,p+1,by unfold QgA;rw[hat,e];rfl,rfl,rfl⟩
  ·have ec:((nx s p).toNat:Int)=116:=by rw[e];rfl
   have wc:IntKind.i32.wrap 116=116:=by decide
   refine v_r (j_ gr (j_ wp (j_ hl (j_ ec wc)))) ?_
   exact QaU rfl ⟨9,p+1,by unfold QgA;rw[hat,e];rfl,rfl,rfl⟩
  have ec:((nx s p).toNat:Int)=117:=by rw[e];rfl
  have hu:=esc_u (s:=s) (p:=p) (by rw[hat,e])
  refine v_r (j_ gr (j_ wp (j_ hl ec))) ?_
  refine Qam ?_;refine Qay rfl ?_;simp only[zz,simprocAttr]
  refine Fv.mono (Qno _ _ r s (p+1) gp hl hs (by omega)) ?_ ?_
  rotate_left
  ·rintro z ⟨e',he,rfl⟩
   exact⟨e',by rw[hu,he],rfl⟩
  rintro v H' ⟨n,q,hcode,rfl,rfl⟩
  rw[hcode]at hu
  simp only at hu
  obtain⟨hn,-,hq2⟩:=Qgk hcode
  have hq2:=hq2 (by omega)
  rw[Qc6]
  have gq:=QfI gr q
  (apply QnE;(focus(intro _;simp only[zz,simprocAttr];(first|done|with_reducible exact rfl))))<;>(try simp only[zp,simprocAttr])
  by_cases c1:n<55296
  ·have g1:decide ((n:Int)<55296)=true:=by simp;omega
   rw[if_pos (.inl c1)]at hu
   refine v_r g1 ?_
   exact QaU rfl ⟨n,q,hu,rfl,rfl⟩
  have g1:decide ((n:Int)<55296)=false:=by simp;omega
  by_cases c2:57343<n
  ·have g2:decide ((n:Int)>57343)=true:=by simp;omega
   rw[if_pos (.inr c2)]at hu
   refine v_r (j_ g1 g2) ?_
   exact QaU rfl ⟨n,q,hu,rfl,rfl⟩
  have g2:decide ((n:Int)>57343)=false:=by simp;omega
  rw[if_neg (by omega)]at hu
  by_cases c3:56320≤n
  ·have g3:decide ((n:Int)≥56320)=true:=by simp;omega
   rw[if_pos (.inl c3)]at hu
   refine v_r (j_ g1 (j_ g2 g3)) ?_
   refine Qam ?_;refine Qay rfl ?_;simp only[zz,simprocAttr]
   exact EvP.fv (QaW _ _ r 11 (p-1)) ⟨_,hu,rfl⟩
  have g3:decide ((n:Int)≥56320)=false:=by simp;omega
  have hpre:=Qmo (pr:=pr) lim (H.set r (rdO s q)) (s.drop q) [92,117] (by rw[List.length_drop];omega)
  rw[pre_two]at hpre
  have sl1:((q:Int)≤(s.length:Int))=True:=eq_true (by omega)
  have sl2:s.take s.length=s:=List.take_length
  by_cases c4:s[q]? =some 92∧s[q+1]? =some 117
  ·rw[decide_eq_true c4]at hpre
   rw[if_neg (by rintro(h|h);exact c3 h;exact h c4)]at hu
   have wq:IntKind.i64.wrap ((q:Int)+2)=((q+2:Nat):Int):=by rw[w64 (by omega) (by omega)];omega
   have hql:=(List.getElem?_eq_some_iff.1 c4.2).1
   refine v_r (j_ g1 g2) ?_
   (apply QaP;focus(refine Evl.call (X:=(QaE code pr)) (hpre) (Evl.all fun k e1=> ?_);simp(maxSteps:=100000000) only[zz,zd,simprocAttr,gq,g3,sl1,sl2,e1];(first|done|with_reducible exact rfl)))<;>(try simp only[zp,simprocAttr])
   (repeat((first|refine QhT ?_|refine QjY ?_|refine QdO ?_|refine Qcm ?_|refine Qcl ?_|(apply Qhg;focus(intro _;simp only[zz,simprocAttr,gq,wq,hl,Qc6];(first|done|with_reducible exact rfl)))|(refine QjW ?_ ?_;focus(simp only[zp,simprocAttr];done))|(refine QjX ?_ ?_;focus(simp only[zp,simprocAttr];done)))<;>(try simp only[zp,simprocAttr])))
   have gq2:=QfI gr (q+2)
   refine Qam ?_;refine Qay rfl ?_;simp only[zz,simprocAttr]
   refine Fv.mono (Qno _ _ r s (q+2) gq2 hl hs (by omega)) ?_ ?_
   rotate_left
   ·rintro z ⟨e',he,rfl⟩
    rw[he]at hu
    exact⟨e',hu,rfl⟩
   rintro v H' ⟨m,q3,hcode2,rfl,rfl⟩
   rw[hcode2]at hu
   simp only at hu
   obtain⟨hm,-,-⟩:=Qgk hcode2
   rw[Qc6]
   (apply QnE;(focus(intro _;simp only[zz,simprocAttr];(first|done|with_reducible exact rfl))))<;>(try simp only[zp,simprocAttr])
   by_cases d1:m<56320
   ·have g4:decide ((m:Int)<56320)=true:=by simp;omega
    rw[if_pos (.inl d1)]at hu
    refine v_r g4 ?_
    refine Qam ?_;refine Qay rfl ?_;simp only[zz,simprocAttr]
    exact EvP.fv (QaW _ _ r 11 (p-1)) ⟨_,hu,rfl⟩
   have g4:decide ((m:Int)<56320)=false:=by simp;omega
   by_cases d2:57343<m
   ·have g5:decide ((m:Int)>57343)=true:=by simp;omega
    rw[if_pos (.inr d2)]at hu
    refine v_r (j_ g4 g5) ?_
    refine Qam ?_;refine Qay rfl ?_;simp only[zz,simprocAttr]
    exact EvP.fv (QaW _ _ r 11 (p-1)) ⟨_,hu,rfl⟩
   have g5:decide ((m:Int)>57343)=false:=by simp;omega
   rw[if_neg (by omega)]at hu
   have a1:IntKind.i32.wrap ((n:Int)-55296)=((n-55296:Nat):Int):=by rw[w32 (by omega) (by omega)];omega
   have a2:=shl10 (n-55296) (by omega)
   have a3:IntKind.i32.wrap (65536+(((n-55296)*1024:Nat):Int))=((65536+(n-55296)*1024:Nat):Int):=by rw[w32 (by omega) (by omega)];omega
   have a4:IntKind.i32.wrap (((65536+(n-55296)*1024:Nat):Int)+(m:Int))=((65536+(n-55296)*1024+m:Nat):Int):=by rw[w32 (by omega) (by omega)];omega
   have a5:IntKind.i32.wrap (((65536+(n-55296)*1024+m:Nat):Int)-56320)=((65536+(n-55296)*1024+(m-56320):Nat):Int):=by rw[w32 (by omega) (by omega)];omega
   refine v_r (j_ g4 g5) ?_
   refine v_r (j_ a1 (j_ a2 (j_ a3 (j_ a4 a5)))) ?_
   exact QaU rfl ⟨_,q3,hu,rfl,rfl⟩
  ·rw[decide_eq_false c4]at hpre
   rw[if_pos (.inr c4)]at hu
   refine v_r (j_ g1 g2) ?_
   (apply QaP;focus(refine Evl.call (X:=(QaE code pr)) (hpre) (Evl.all fun k e1=> ?_);simp(maxSteps:=100000000) only[zz,zd,simprocAttr,gq,g3,sl1,sl2,e1];(first|done|with_reducible exact rfl)))<;>(try simp only[zp,simprocAttr])
   refine v_r trivial ?_
   refine Qam ?_;refine Qay rfl ?_;simp only[zz,simprocAttr]
   exact EvP.fv (QaW _ _ r 11 (p-1)) ⟨_,hu,rfl⟩
end Go.Proofs.YtfoiaojdnmpgmaaGreatDoor
namespace Go.Proofs.YtfoiaojdnmpgmaaGreatDoor
open Go Go.Abs
section
variable {lim:Nat} {H:Qab} {r n:Nat} {s:Tx} {p:Nat} (x:Nat→AV)
theorem v41_0:V (QaE code QaA) (QbZ code pf QaA (fun _=>none)) lim q41_0 ⟨[.ptr r 0,x 1,x 2,x 3,x 4,x 5,x 6,x 7,x 8,x 9,x 10,x 11,x 12,x 13,x 14,x 15,x 16,x 17,x 18,x 19,x 20,x 21,x 22,x 23,x 24,x 25,x 26,x 27,x 28,x 29,x 30,x 31,x 32,x 33,x 34,x 35,x 36,x 37,x 38,x 39,x 40,x 41,x 42,x 43,x 44,x 45,x 46,x 47,x 48,x 49,x 50,x 51,x 52,x 53,x 54,x 55,x 56,x 57,x 58,x 59,x 60,x 61,x 62],H⟩ (fun e st=>e= .normal∧∃x:Nat→AV,st=⟨[.ptr r 0,x 1,x 2,x 3,x 4,x 5,x 6,x 7,x 8,x 9,x 10,x 11,x 12,x 13,x 14,x 15,x 16,x 17,x 18,x 19,x 20,x 21,x 22,x 23,x 24,x 25,x 26,x 27,x 28,x 29,x 30,x 31,x 32,x 33,x 34,x 35,x 36,x 37,x 38,x 39,x 40,x 41,x 42,x 43,x 44,x 45,x 46,x 47,x 48,x 49,x 50,x 51,x 52,x 53,x 54,x 55,x 56,x 57,x 58,x 59,x 60,x 61,x 62],H⟩) (fun _=>False):=by
 unfold q41_0
 refine v_r trivial ?_
 exact⟨by first|exact trivial|exact rfl,QaC _ _ _ rfl⟩
theorem v41_1(gr:H[r]? =some (rdO s p))(hl:lim≤r)(hs:s.length≤16384)(hp:p≤s.length):V (QaE code QaA) (QbZ code pf QaA (fun _=>none)) lim q41_1 ⟨[.ptr r 0,x 1,x 2,x 3,x 4,x 5,x 6,x 7,x 8,x 9,x 10,x 11,x 12,x 13,x 14,x 15,x 16,x 17,x 18,x 19,x 20,x 21,x 22,x 23,x 24,x 25,x 26,x 27,x 28,x 29,x 30,x 31,x 32,x 33,x 34,x 35,x 36,x 37,x 38,x 39,x 40,x 41,x 42,x 43,x 44,x 45,x 46,x 47,x 48,x 49,x 50,x 51,x 52,x 53,x 54,x 55,x 56,x 57,x 58,x 59,x 60,x 61,x 62],H⟩
  (fun e st=>e= .normal∧Qem s 34 p= .ok (p+1)∧∃x:Nat→AV,st=⟨[.ptr r 0,x 1,x 2,x 3,x 4,x 5,x 6,x 7,x 8,x 9,x 10,x 11,x 12,x 13,x 14,x 15,x 16,x 17,x 18,x 19,x 20,x 21,x 22,x 23,x 24,x 25,x 26,x 27,x 28,x 29,x 30,x 31,x 32,x 33,x 34,x 35,x 36,x 37,x 38,x 39,x 40,x 41,x 42,x 43,x 44,x 45,x 46,x 47,x 48,x 49,x 50,x 51,x 52,x 53,x 54,x 55,x 56,x 57,x 58,x 59,x 60,x 61,x 62],H.set r (rdO s (p+1))⟩) (fun z=>Qem s 34 p= .error (11,p)∧z=Qc1 11 p):=by
 unfold q41_1
 rcases Qb2 s 34 p with⟨h1,h2⟩|⟨h1,h2⟩
 ·have ew:Ev (QaE code QaA) 190 lim [.ptr r 0,.d (.int .u8 34)] H (.tuple []) _:=Qhk (pr:=QaA) lim H r s p 34 gr hl hs h1
  (apply QaP;focus(refine Evl.call (X:=(QaE code QaA)) (ew) (Evl.all fun k e1=> ?_);simp(maxSteps:=100000000) only[zz,zd,simprocAttr,e1];(first|done|with_reducible exact rfl)))<;>(try simp only[zp,simprocAttr])
  exact⟨by first|exact trivial|exact rfl,h2,QaC _ _ _ rfl⟩
 ·refine Qam ?_;apply Qa9 1;(focus(intro _;simp only[zz,simprocAttr];(first|done|with_reducible exact rfl)));simp only[List.drop_succ_cons,List.drop_zero];refine Qay rfl ?_;simp only[zz,simprocAttr]
  exact EvP.fv (Qhl (pr:=QaA) lim H r s p 34 gr hp h1) ⟨h2,rfl⟩
theorem v41_3(gr:H[r]? =some (rdO s p))(hp:p≤s.length):V (QaE code QaA) (QbZ code pf QaA (fun _=>none)) lim q41_3 ⟨[.ptr r 0,x 1,x 2,.ptr n 0,x 4,x 5,x 6,x 7,x 8,x 9,x 10,x 11,x 12,x 13,x 14,x 15,x 16,x 17,x 18,x 19,x 20,x 21,x 22,x 23,x 24,x 25,x 26,x 27,x 28,x 29,x 30,x 31,x 32,x 33,x 34,x 35,x 36,x 37,x 38,x 39,x 40,x 41,x 42,x 43,x 44,x 45,x 46,x 47,x 48,x 49,x 50,x 51,x 52,x 53,x 54,x 55,x 56,x 57,x 58,x 59,x 60,x 61,x 62],H⟩
  (fun e st=>e= .normal∧∃x:Nat→AV,st=⟨[.ptr r 0,x 1,x 2,.ptr n 0,.d (.int .u8 (nx s p).toNat),x 5,x 6,x 7,x 8,x 9,x 10,x 11,x 12,x 13,x 14,x 15,x 16,x 17,x 18,x 19,x 20,x 21,x 22,x 23,x 24,x 25,x 26,x 27,x 28,x 29,x 30,x 31,x 32,x 33,x 34,x 35,x 36,x 37,x 38,x 39,x 40,x 41,x 42,x 43,x 44,x 45,x 46,x 47,x 48,x 49,x 50,x 51,x 52,x 53,x 54,x 55,x 56,x 57,x 58,x 59,x 60,x 61,x 62],H⟩) (fun _=>False):=by
 unfold q41_3
 (apply QaP;focus(refine Evl.call (X:=(QaE code QaA)) (Qa8 lim H r s p gr hp) (Evl.all fun k e1=> ?_);simp(maxSteps:=100000000) only[zz,zd,simprocAttr,e1];(first|done|with_reducible exact rfl)))<;>(try simp only[zp,simprocAttr])
 exact⟨by first|exact trivial|exact rfl,QaC _ _ _ rfl⟩
theorem v41_6(gr:H[r]? =some (rdO s p))(c:UInt8)(b:Bool)(hb:b=(decide (p=s.length)||decide (c.toNat<32))):V (QaE code QaA) (QbZ code pf QaA (fun _=>none)) lim q41_6 ⟨[.ptr r 0,x 1,x 2,.ptr n 0,.d (.int .u8 c.toNat),x 5,x 6,x 7,x 8,x 9,x 10,x 11,x 12,x 13,x 14,x 15,x 16,x 17,x 18,x 19,x 20,x 21,x 22,x 23,x 24,x 25,x 26,x 27,x 28,x 29,x 30,x 31,x 32,x 33,x 34,x 35,x 36,x 37,x 38,x 39,x 40,x 41,x 42,x 43,x 44,x 45,x 46,x 47,x 48,x 49,x 50,x 51,x 52,x 53,x 54,x 55,x 56,x 57,x 58,x 59,x 60,x 61,x 62],H⟩
  (fun e st=>e= .normal∧∃x:Nat→AV,st=⟨[.ptr r 0,x 1,x 2,.ptr n 0,.d (.int .u8 c.toNat),x 5,x 6,x 7,x 8,x 9,x 10,x 11,x 12,x 13,x 14,x 15,x 16,x 17,boolD b,x 19,x 20,x 21,x 22,x 23,x 24,x 25,x 26,x 27,x 28,x 29,x 30,x 31,x 32,x 33,x 34,x 35,x 36,x 37,x 38,x 39,x 40,x 41,x 42,x 43,x 44,x 45,x 46,x 47,x 48,x 49,x 50,x 51,x 52,x 53,x 54,x 55,x 56,x 57,x 58,x 59,x 60,x 61,x 62],H⟩) (fun _=>False):=by
 unfold q41_6
 have e:decide ((c.toNat:Int)<32)=decide (c.toNat<32):=by rw[Bool.eq_iff_iff];simp;omega
 cases h1:decide (p=s.length)with
 |true=>
  rw[h1,Bool.true_or]at hb
  (apply Qhg;focus(intro k;simp(maxSteps:=100000000) only[zz,zd,simprocAttr,gr,Qhv,h1];(first|done|with_reducible exact rfl)))<;>(try simp only[zp,simprocAttr])
  rw[hb]
  exact⟨by first|exact trivial|exact rfl,QaC _ _ _ rfl⟩
 |false=>
  rw[h1,Bool.false_or]at hb
  (apply Qhg;focus(intro k;simp(maxSteps:=100000000) only[zz,zd,simprocAttr,gr,Qhv,h1,e];(first|done|with_reducible exact rfl)))<;>(try simp only[zp,simprocAttr])
  rw[hb]
  exact⟨by first|exact trivial|exact rfl,QaC _ _ _ rfl⟩
theorem v41_7(gr:H[r]? =some (rdO s p))(c:UInt8)(b:Bool):V (QaE code QaA) (QbZ code pf QaA (fun _=>none)) lim q41_7 ⟨[.ptr r 0,x 1,x 2,.ptr n 0,.d (.int .u8 c.toNat),x 5,x 6,x 7,x 8,x 9,x 10,x 11,x 12,x 13,x 14,x 15,x 16,x 17,boolD b,x 19,x 20,x 21,x 22,x 23,x 24,x 25,x 26,x 27,x 28,x 29,x 30,x 31,x 32,x 33,x 34,x 35,x 36,x 37,x 38,x 39,x 40,x 41,x 42,x 43,x 44,x 45,x 46,x 47,x 48,x 49,x 50,x 51,x 52,x 53,x 54,x 55,x 56,x 57,x 58,x 59,x 60,x 61,x 62],H⟩ (fun _ _=>False) (fun z=>z=Qc1 11 p):=by
 unfold q41_7
 refine Qam ?_;apply Qa9 5;(focus(intro _;simp only[zz,simprocAttr,gr];(first|done|with_reducible exact rfl)));simp only[List.drop_succ_cons,List.drop_zero];refine Qay rfl ?_;simp only[zz,simprocAttr]
 exact EvP.fv (QaW (pr:=QaA) lim H r 11 p) rfl
theorem v41_8(c:UInt8)(b b':Bool)(hb:((c.toNat:Int)==34)=b'):V (QaE code QaA) (QbZ code pf QaA (fun _=>none)) lim q41_8 ⟨[.ptr r 0,x 1,x 2,.ptr n 0,.d (.int .u8 c.toNat),x 5,x 6,x 7,x 8,x 9,x 10,x 11,x 12,x 13,x 14,x 15,x 16,x 17,boolD b,x 19,x 20,x 21,x 22,x 23,x 24,x 25,x 26,x 27,x 28,x 29,x 30,x 31,x 32,x 33,x 34,x 35,x 36,x 37,x 38,x 39,x 40,x 41,x 42,x 43,x 44,x 45,x 46,x 47,x 48,x 49,x 50,x 51,x 52,x 53,x 54,x 55,x 56,x 57,x 58,x 59,x 60,x 61,x 62],H⟩
  (fun e st=>e= .normal∧∃x:Nat→AV,st=⟨[.ptr r 0,x 1,x 2,.ptr n 0,.d (.int .u8 c.toNat),x 5,x 6,x 7,x 8,x 9,x 10,x 11,x 12,x 13,x 14,x 15,x 16,x 17,x 18,x 19,x 20,x 21,x 22,x 23,x 24,x 25,x 26,x 27,x 28,x 29,x 30,x 31,x 32,x 33,x 34,x 35,x 36,x 37,x 38,boolD b',x 40,x 41,x 42,x 43,x 44,x 45,x 46,x 47,x 48,x 49,x 50,x 51,x 52,x 53,x 54,x 55,x 56,x 57,x 58,x 59,x 60,x 61,x 62],H⟩) (fun _=>False):=by
 unfold q41_8
 refine v_r hb ?_
 exact⟨by first|exact trivial|exact rfl,QaC _ _ _ rfl⟩
theorem v41_11(c:UInt8)(b b':Bool)(hb:((c.toNat:Int)==92)=b'):V (QaE code QaA) (QbZ code pf QaA (fun _=>none)) lim Qma ⟨[.ptr r 0,x 1,x 2,.ptr n 0,.d (.int .u8 c.toNat),x 5,x 6,x 7,x 8,x 9,x 10,x 11,x 12,x 13,x 14,x 15,x 16,x 17,x 18,x 19,x 20,x 21,x 22,x 23,x 24,x 25,x 26,x 27,x 28,x 29,x 30,x 31,x 32,x 33,x 34,x 35,x 36,x 37,x 38,boolD b,x 40,x 41,x 42,x 43,x 44,x 45,x 46,x 47,x 48,x 49,x 50,x 51,x 52,x 53,x 54,x 55,x 56,x 57,x 58,x 59,x 60,x 61,x 62],H⟩
  (fun e st=>e= .normal∧∃x:Nat→AV,st=⟨[.ptr r 0,x 1,x 2,.ptr n 0,.d (.int .u8 c.toNat),x 5,x 6,x 7,x 8,x 9,x 10,x 11,x 12,x 13,x 14,x 15,x 16,x 17,x 18,x 19,x 20,x 21,x 22,x 23,x 24,x 25,x 26,x 27,x 28,x 29,x 30,x 31,x 32,x 33,x 34,x 35,x 36,x 37,x 38,x 39,x 40,x 41,x 42,x 43,x 44,x 45,x 46,x 47,x 48,x 49,boolD b',x 51,x 52,x 53,x 54,x 55,x 56,x 57,x 58,x 59,x 60,x 61,x 62],H⟩) (fun _=>False):=by
 unfold Qma
 refine v_r hb ?_
 exact⟨by first|exact trivial|exact rfl,QaC _ _ _ rfl⟩
theorem v41_9(gr:H[r]? =some (rdO s p))(hl:lim≤r)(hp:p<100000):V (QaE code QaA) (QbZ code pf QaA (fun _=>none)) lim q41_9 ⟨[.ptr r 0,x 1,x 2,.ptr n 0,x 4,x 5,x 6,x 7,x 8,x 9,x 10,x 11,x 12,x 13,x 14,x 15,x 16,x 17,x 18,x 19,x 20,x 21,x 22,x 23,x 24,x 25,x 26,x 27,x 28,x 29,x 30,x 31,x 32,x 33,x 34,x 35,x 36,x 37,x 38,x 39,x 40,x 41,x 42,x 43,x 44,x 45,x 46,x 47,x 48,x 49,x 50,x 51,x 52,x 53,x 54,x 55,x 56,x 57,x 58,x 59,x 60,x 61,x 62],H⟩
  (fun e st=>e= .normal∧∃x:Nat→AV,st=⟨[.ptr r 0,x 1,x 2,.ptr n 0,x 4,x 5,x 6,x 7,x 8,x 9,x 10,x 11,x 12,x 13,x 14,x 15,x 16,x 17,x 18,x 19,x 20,x 21,x 22,x 23,x 24,x 25,x 26,x 27,x 28,x 29,x 30,x 31,x 32,x 33,x 34,x 35,x 36,x 37,x 38,x 39,x 40,x 41,x 42,x 43,x 44,x 45,x 46,x 47,x 48,x 49,x 50,x 51,x 52,x 53,x 54,x 55,x 56,x 57,x 58,x 59,x 60,x 61,x 62],H.set r (rdO s (p+1))⟩) (fun _=>False):=by
 unfold q41_9
 have wp:IntKind.i64.wrap ((p:Int)+1)=((p+1:Nat):Int):=Qi5 hp
 refine v_r (j_ gr (j_ wp hl)) ?_
 exact⟨by first|exact trivial|exact rfl,QaC _ _ _ rfl⟩
theorem v41_12(gr:H[r]? =some (rdO s p))(hl:lim≤r)(hp:p<100000):V (QaE code QaA) (QbZ code pf QaA (fun _=>none)) lim Ql9 ⟨[.ptr r 0,x 1,x 2,.ptr n 0,x 4,x 5,x 6,x 7,x 8,x 9,x 10,x 11,x 12,x 13,x 14,x 15,x 16,x 17,x 18,x 19,x 20,x 21,x 22,x 23,x 24,x 25,x 26,x 27,x 28,x 29,x 30,x 31,x 32,x 33,x 34,x 35,x 36,x 37,x 38,x 39,x 40,x 41,x 42,x 43,x 44,x 45,x 46,x 47,x 48,x 49,x 50,x 51,x 52,x 53,x 54,x 55,x 56,x 57,x 58,x 59,x 60,x 61,x 62],H⟩
  (fun e st=>e= .normal∧∃x:Nat→AV,st=⟨[.ptr r 0,x 1,x 2,.ptr n 0,x 4,x 5,x 6,x 7,x 8,x 9,x 10,x 11,x 12,x 13,x 14,x 15,x 16,x 17,x 18,x 19,x 20,x 21,x 22,x 23,x 24,x 25,x 26,x 27,x 28,x 29,x 30,x 31,x 32,x 33,x 34,x 35,x 36,x 37,x 38,x 39,x 40,x 41,x 42,x 43,x 44,x 45,x 46,x 47,x 48,x 49,x 50,x 51,x 52,x 53,x 54,x 55,x 56,x 57,x 58,x 59,x 60,x 61,x 62],H.set r (rdO s (p+1))⟩) (fun _=>False):=by
 unfold Ql9
 have wp:IntKind.i64.wrap ((p:Int)+1)=((p+1:Nat):Int):=Qi5 hp
 refine v_r (j_ gr (j_ wp hl)) ?_
 exact⟨by first|exact trivial|exact rfl,QaC _ _ _ rfl⟩
theorem v41_5(gr:H[r]? =some (rdO s p))(hl:lim≤r)(hp:p<100000):V (QaE code QaA) (QbZ code pf QaA (fun _=>none)) lim q41_5 ⟨[.ptr r 0,x 1,x 2,.ptr n 0,x 4,x 5,x 6,x 7,x 8,x 9,x 10,x 11,x 12,x 13,x 14,x 15,x 16,x 17,x 18,x 19,x 20,x 21,x 22,x 23,x 24,x 25,x 26,x 27,x 28,x 29,x 30,x 31,x 32,x 33,x 34,x 35,x 36,x 37,x 38,x 39,x 40,x 41,x 42,x 43,x 44,x 45,x 46,x 47,x 48,x 49,x 50,x 51,x 52,x 53,x 54,x 55,x 56,x 57,x 58,x 59,x 60,x 61,x 62],H⟩
  (fun e st=>e= .normal∧∃x:Nat→AV,st=⟨[.ptr r 0,x 1,x 2,.ptr n 0,x 4,x 5,x 6,x 7,x 8,x 9,x 10,x 11,x 12,x 13,x 14,x 15,x 16,x 17,x 18,x 19,x 20,x 21,x 22,x 23,x 24,x 25,x 26,x 27,x 28,x 29,x 30,x 31,x 32,x 33,x 34,x 35,x 36,x 37,x 38,x 39,x 40,x 41,x 42,x 43,x 44,x 45,x 46,x 47,x 48,x 49,x 50,x 51,x 52,x 53,x 54,x 55,x 56,x 57,x 58,x 59,x 60,x 61,x 62],H.set r (rdO s (p+1))⟩) (fun _=>False):=by
 unfold q41_5
 have wp:IntKind.i64.wrap ((p:Int)+1)=((p+1:Nat):Int):=Qi5 hp
 refine v_r (j_ gr (j_ wp hl)) ?_
 exact⟨by first|exact trivial|exact rfl,QaC _ _ _ rfl⟩
end
end Go.Proofs.YtfoiaojdnmpgmaaGreatDoor
set_option maxHeartbeats 1000000
set_option linter.unusedVariables false
namespace Go.Proofs.YtfoiaojdnmpgmaaGreatDoor
open Go Go.Abs Go.Proofs Go.RowKit Go.Lib
structure TI (g0:Gh) (w0:World) (n b:Nat) (l:Tx) (g:Gh) (w:World):Prop where
 wf:WF g0 w0 g w
 hn:n<g.n
 rho:g.rho n=b
 b0:w0.heap.size≤b∧g.own b= .free∧g.bd b=0
 bld:∃row,Bld b l row w∧∀k,row=some k→w0.heap.size≤k∧g.own k= .free∧g.bd k=0
theorem Bld.lt{b:Nat}{l:Tx}{row:Option Nat}{w:World}(h:Bld b l row w):b<w.heap.size:=by
 obtain⟨p,v,_,h,_⟩:=h;exact h.lt
theorem Bld.row_lt{b:Nat}{l:Tx}{row:Option Nat}{w:World}(h:Bld b l row w){k:Nat}(hk:row=some k):k<w.heap.size:=by
 obtain⟨p,v,_,h,e⟩:=h;exact h.row_lt (e.trans hk)
theorem TI.step{g0:Gh}{w0:World}{n b:Nat}{l:Tx}{g g':Gh}{w w':World}(h:TI g0 w0 n b l g w)(hw:WF g w g' w'):TI g0 w0 n b l g' w':=by
 obtain⟨row,hb,hr⟩:=h.bld
 have i1:=hw.idle b hb.lt (.inl h.b0.2.1)
 refine⟨h.wf.trans hw,Nat.lt_of_lt_of_le h.hn hw.n,(hw.rho n h.hn).trans h.rho,⟨h.b0.1,i1.2.1.trans h.b0.2.1,i1.2.2.trans h.b0.2.2⟩,row,hb.kept i1.1 (fun k hk=>(hw.idle k (hb.row_lt hk) (.inl (hr k hk).2.1)).1),fun k hk=> ?_⟩
 have i2:=hw.idle k (hb.row_lt hk) (.inl (hr k hk).2.1)
 exact⟨(hr k hk).1,i2.2.1.trans (hr k hk).2.1,i2.2.2.trans (hr k hk).2.2⟩
theorem TI.use{g0:Gh}{w0:World}{H0 H:Qab}(h0:HeapOK g0 H0 w0){n b:Nat}{l:Tx}{g:Gh}{w:World}(hH:HeapOK g H w)(h:TI g0 w0 n b l g w):
  ∃row,Bld b l row w∧(∀w',Mv b row w w'→Frn g w w'∧WF g0 w0 g w')∧∀w' l',QnC b l' row w w'→Frn g w w'∧TI g0 w0 n b l' g w':=by
 obtain⟨row,hb,hr⟩:=h.bld
 have hm:∀w',Mv b row w w'→Frn g w w'∧WF g0 w0 g w':=fun w' hm=>by
  have hf:Frn g w w':=⟨hm.os,hm.tape,hm.output,hm.size,fun k hk ho=>hm.block k hk (fun e=>by
   subst e;rcases ho with ho|ho
   ·exact ho h.b0.2.1
   ·exact ho h.b0.2.2) (fun e=>by
   obtain⟨_,q1,q2⟩:=hr k e.symm
   rcases ho with ho|ho
   ·exact ho q1
   ·exact ho q2)⟩
  refine⟨hf,hf.wf h0 h.wf fun k hk=>hm.block k (Nat.lt_of_lt_of_le hk h.wf.size) (fun e=> ?_) (fun e=> ?_)⟩
  ·have:=h.b0.1;omega
  ·have:=(hr k e.symm).1;omega
 refine⟨row,hb,hm,fun w' l' hw=> ?_⟩
 obtain⟨row',hb',hmv,hrow⟩:=hw
 obtain⟨q1,q2⟩:=hm w' hmv
 refine⟨q1,q2,h.hn,h.rho,h.b0,row',hb',fun k hk=> ?_⟩
 rcases hrow with e|⟨k',e,hk'⟩
 ·exact hr k (e.symm.trans hk)
 ·rw[e]at hk;injection hk with hk;subst hk
  have:=hH.new k' hk'
  exact⟨Nat.le_trans h.wf.size hk',this⟩
theorem Inv.bool{g:Gh}{st:St}{a:Act}{w:World}(h:Inv g st a w){i:Nat}{b:Bool}(hT:st.T.getD i .undef=boolD b):a.eval (.tmp i)= .bool b:=by
 have:=(Qby h i).1
 rw[hT]at this
 show a.tmps.getD i undef=_
 generalize a.tmps.getD i undef=v at this
 cases this with
 |d _ _ h=>cases h;rfl
def opsOf:Code→Array Oper
 |.region _ ops _=>ops
 |_=> #[]
noncomputable def QaQ(c:Code)(i:Nat):Oper:=((opsOf c).toList[i]?).getD ⟨none,.move (.tmp 0),0, "",#[],none⟩
theorem b41_eq:b41= .seq p41_0 (.seq p41_1 (.seq p41_2 (.block 0 (.loop (.block 1 (.seq p41_3 (.block 2 (.seq p41_6 (.cond (.tmp 18) p41_7 (.seq p41_8 (.cond (.tmp 39) (.seq p41_9 (.seq QcX .ret)) (.seq Qmu (.cond (.tmp 50) (.seq Qmt Qbz) (.seq QfN p41_5)))))))))))))):=by kernel_rfl
theorem r2_eq:p41_2= .region 2 #[QaQ p41_2 0] false:=by kernel_rfl
theorem r2_op:QaQ p41_2 0=⟨some 3,.alloc 180,(QaQ p41_2 0).type,(QaQ p41_2 0).pos,(QaQ p41_2 0).after,none⟩:=by kernel_rfl
theorem r10_eq:QcX= .region 10 #[QaQ QcX 0,QaQ QcX 1] false:=by kernel_rfl
theorem r13_eq:Qbz= .region 13 #[QaQ Qbz 0,QaQ Qbz 1,QaQ Qbz 2] false:=by kernel_rfl
theorem r4_eq:QfN= .region 4 #[QaQ QfN 0,QaQ QfN 1] false:=by kernel_rfl
theorem r2_wp{Q:Exit→Act→World→Prop}{a:Act}{w:World}(h:Q .normal (a.put (some 3) (.pointer (some ⟨w.heap.size,0,none⟩))) (w.alloc (.cells #[.pointer none,.slice none 0 0] 180))):p41_2.wp Tryz.prog Q a w:=by
 rw[r2_eq]
 refine wp_region_list ?_
 rw[r2_op]
 generalize(QaQ p41_2 0).pos=ps
 generalize(QaQ p41_2 0).type=ty
 generalize(QaQ p41_2 0).after=af
 go_wp2
 exact h
end Go.Proofs.YtfoiaojdnmpgmaaGreatDoor
set_option maxHeartbeats 1000000
set_option linter.unusedVariables false
namespace Go.Proofs.YtfoiaojdnmpgmaaGreatDoor
open Go Go.Abs Go.Proofs Go.RowKit Go.Lib
abbrev TS(r n:Nat)(x:Nat→AV):List AV:= [.ptr r 0,x 1,x 2,.ptr n 0,x 4,x 5,x 6,x 7,x 8,x 9,x 10,x 11,x 12,x 13,x 14,x 15,x 16,x 17,x 18,x 19,x 20,x 21,x 22,x 23,x 24,x 25,x 26,x 27,x 28,x 29,x 30,x 31,x 32,x 33,x 34,x 35,x 36,x 37,x 38,x 39,x 40,x 41,x 42,x 43,x 44,x 45,x 46,x 47,x 48,x 49,x 50,x 51,x 52,x 53,x 54,x 55,x 56,x 57,x 58,x 59,x 60,x 61,x 62]
abbrev TS4(r n:Nat)(c:UInt8)(x:Nat→AV):List AV:= [.ptr r 0,x 1,x 2,.ptr n 0,.d (.int .u8 c.toNat),x 5,x 6,x 7,x 8,x 9,x 10,x 11,x 12,x 13,x 14,x 15,x 16,x 17,x 18,x 19,x 20,x 21,x 22,x 23,x 24,x 25,x 26,x 27,x 28,x 29,x 30,x 31,x 32,x 33,x 34,x 35,x 36,x 37,x 38,x 39,x 40,x 41,x 42,x 43,x 44,x 45,x 46,x 47,x 48,x 49,x 50,x 51,x 52,x 53,x 54,x 55,x 56,x 57,x 58,x 59,x 60,x 61,x 62]
def TRes(g0:Gh)(w0:World)(H0:Qab)(lim r:Nat)(s:Tx)(p:Nat)(e:Ending)(w':World):Prop:=
 (∃t q v g',Qb6 s p= .ok (t,q)∧e= .returned v∧WF g0 w0 g' w'∧HeapOK g' (H0.set r (rdO s q)) w'∧VR g' w' (.d (.str t)) v)∨
 ∃er v g' H',Qb6 s p= .error er∧e= .panicked [{ v:= .iface (Qc1 er.1 er.2).1 v,recovered:=false }]∧WF g0 w0 g' w'∧Ext lim H0 H'∧HeapOK g' H' w'∧VR g' w' (.d (Qc1 er.1 er.2).2) v
abbrev BP(g0:Gh)(w0:World)(H0:Qab)(lim r:Nat)(s:Tx)(p:Nat):Exit→Act→World→Prop:=bodyPost Tryz.prog Tryz.f167 (TRes g0 w0 H0 lim r s p)
theorem chars_eq(s:Tx)(f:Nat)(acc:Tx)(p:Nat):QcI s (f+1) acc p=match s[p]? with
  |none=> .error (11,p)
  |some c=>
   if c.toNat<32 then .error (11,p)
   else if c=34 then .ok (acc,p+1)
   else if c=92 then match QgA s (p+1)with
    |.error e=> .error e
    |.ok (n,q)=>QcI s f (acc++QcP n) q
   else QcI s f (acc++ [c]) (p+1):=by
 conv=>lhs;unfold QcI
 rfl
theorem esc_rune{s:Tx}{p n q:Nat}(h:QgA s p= .ok (n,q)):QfF n:=by
 unfold QfF
 unfold QgA at h
 split at h
 ·cases h
 ·rename_i c hc
  have hl:=c.toNat_lt
  iterate 6 (split at h;·(have:=congrArg Prod.fst (Except.ok.inj h);simp only at this;omega))
  split at h
  ·split at h
   ·cases h
   ·rename_i n1 p1 h1
    have:=(Qgk h1).1
    split at h
    ·have:=congrArg Prod.fst (Except.ok.inj h);simp only at this;omega
    ·split at h
     ·cases h
     ·split at h
      ·cases h
      ·rename_i n2 p2 h2
       have:=(Qgk h2).1
       split at h
       ·cases h
       ·have:=congrArg Prod.fst (Except.ok.inj h);simp only at this;omega
  ·cases h
theorem Ql4(n:Nat):(QcP n).length≤4:=by unfold QcP;(repeat' split)<;>simp
section
variable {g0:Gh} {w0:World} {H0:Qab} {lim r:Nat} {s:Tx} {p:Nat}
theorem Qjq{g:Gh}{w:World}{H:Qab}(hw:WF g0 w0 g w)(hx:Ext lim H0 H){er:Nat×Nat}(he:Qb6 s p= .error er):PanQ g w lim H (Qc1 er.1 er.2) (BP g0 w0 H0 lim r s p):=
 fun g' H' v a' w' k0 k1 kx k2 k3=>⟨k0,.inr ⟨er,v,g',H',he,rfl,hw.trans k1,hx.trans kx,k2,k3⟩⟩
theorem QmZ(gr:r<H0.length)(o:AObj):(H0.set r o++ [AObj.dead])[r]? =some o:=by
 rw[List.getElem?_append_left (by simpa using gr)];simp[gr]
theorem Qky(gr:r<H0.length)(o o':AObj):(H0.set r o++ [AObj.dead]).set r o'=H0.set r o'++ [AObj.dead]:=by
 rw[List.set_append_left _ _ (by simpa using gr),List.set_set]
theorem kk_ext(hl:lim≤r)(hlim:lim≤H0.length)(o:AObj):Ext lim H0 (H0.set r o++ [AObj.dead]):=(Ext.set _ hl).trans (Ext.app _ (by simpa using hlim))
theorem c10_1: [QaQ QcX 1].mapM (Qal Tryz.prog Qag [QaQ QcX 0,QaQ QcX 1])=some [⟨some 2,.move (.t 49),none,[49]⟩]:=by kernel_rfl
theorem c13_0:Qal Tryz.prog Qag [QaQ Qbz 0,QaQ Qbz 1,QaQ Qbz 2] (QaQ Qbz 0)=some ⟨some 60,.move (.t 0),none,[]⟩:=by kernel_rfl
theorem c13_1:Qal Tryz.prog Qag [QaQ Qbz 0,QaQ Qbz 1,QaQ Qbz 2] (QaQ Qbz 1)=some ⟨some 61,.call 193 [.t 60],none,[]⟩:=by kernel_rfl
theorem c4_0:Qal Tryz.prog Qag [QaQ QfN 0,QaQ QfN 1] (QaQ QfN 0)=some ⟨some 9,.move (.t 4),none,[]⟩:=by kernel_rfl
theorem o10_0:(QaQ QcX 0).op= .call { callee:= .value (.func 191),args:= #[.tmp 3],argTypes:= #[180] }∧(QaQ QcX 0).guard=none∧(QaQ QcX 0).dst=some 49:=⟨by kernel_rfl,by kernel_rfl,by kernel_rfl⟩
theorem o13_2:(QaQ Qbz 2).op= .call { callee:= .value (.func 192),args:= #[.tmp 3,.tmp 61],argTypes:= #[180,21] }∧(QaQ Qbz 2).guard=none∧(QaQ Qbz 2).dst=some 62:=⟨by kernel_rfl,by kernel_rfl,by kernel_rfl⟩
theorem o4_1:(QaQ QfN 1).op= .call { callee:= .value (.func 194),args:= #[.tmp 3,.tmp 9],argTypes:= #[180,5] }∧(QaQ QfN 1).guard=none∧(QaQ QfN 1).dst=some 10:=⟨by kernel_rfl,by kernel_rfl,by kernel_rfl⟩
theorem fn58:QhU Tryz.prog 191:=⟨_,Tryz.func191,by kernel_rfl,by kernel_rfl⟩
theorem fn59:QhU Tryz.prog 192:=⟨_,Tryz.func192,by kernel_rfl,by kernel_rfl⟩
theorem fn61:QhU Tryz.prog 194:=⟨_,Tryz.func194,by kernel_rfl,by kernel_rfl⟩
theorem Inv.ptr{g:Gh}{st:St}{a:Act}{w:World}(h:Inv g st a w){i n:Nat}(hT:st.T.getD i .undef= .ptr n 0):a.eval (.tmp i)= .pointer (some ⟨g.rho n,0,none⟩):=by
 have:=(Qby h i).1
 rw[hT]at this
 show a.tmps.getD i undef=_
 generalize a.tmps.getD i undef=v at this
 cases this;rfl
theorem Inv.num{g:Gh}{st:St}{a:Act}{w:World}(h:Inv g st a w){i:Nat}{k:IntKind}{n:Int}(hT:st.T.getD i .undef= .d (.int k n)):a.eval (.tmp i)= .int k n:=by
 have:=(Qby h i).1
 rw[hT]at this
 show a.tmps.getD i undef=_
 generalize a.tmps.getD i undef=v at this
 cases this with
 |d _ _ h=>cases h;rfl
end
end Go.Proofs.YtfoiaojdnmpgmaaGreatDoor
set_option maxHeartbeats 2000000
set_option linter.unusedVariables false
namespace Go.Proofs.YtfoiaojdnmpgmaaGreatDoor
open Go Go.Abs Go.Proofs Go.RowKit Go.Lib
section
variable {g0:Gh} {w0:World} {H0:Qab} {lim r:Nat} {s:Tx} {p:Nat}
theorem res41:QaO Tryz.prog Tryz.f167.results.toList=some [.t 2]:=by kernel_rfl
theorem v41_13{lim:Nat}{H:Qab}{r n:Nat}(x:Nat→AV){z:PV}(h:EvP (QbZ code pf QaA (fun _=>none)) 193 lim [.ptr r 0] H z):V (QaE code QaA) (QbZ code pf QaA (fun _=>none)) lim Ql8 ⟨[.ptr r 0,x 1,x 2,.ptr n 0,x 4,x 5,x 6,x 7,x 8,x 9,x 10,x 11,x 12,x 13,x 14,x 15,x 16,x 17,x 18,x 19,x 20,x 21,x 22,x 23,x 24,x 25,x 26,x 27,x 28,x 29,x 30,x 31,x 32,x 33,x 34,x 35,x 36,x 37,x 38,x 39,x 40,x 41,x 42,x 43,x 44,x 45,x 46,x 47,x 48,x 49,x 50,x 51,x 52,x 53,x 54,x 55,x 56,x 57,x 58,x 59,x 60,x 61,x 62],H⟩ (fun _ _=>False) (fun z'=>z'=z):=by
 unfold Ql8
 refine Qam ?_;apply Qa9 1;(focus(intro _;simp only[zz,simprocAttr];(first|done|with_reducible exact rfl)));simp only[List.drop_succ_cons,List.drop_zero];refine Qay rfl ?_;simp only[zz,simprocAttr]
 exact EvP.fv h rfl
noncomputable abbrev Qke:Code:= .block 1 (.seq p41_3 (.block 2 (.seq p41_6 (.cond (.tmp 18) p41_7 (.seq p41_8 (.cond (.tmp 39) (.seq p41_9 (.seq QcX .ret)) (.seq Qmu (.cond (.tmp 50) (.seq Qmt Qbz) (.seq QfN p41_5)))))))))
theorem QlV(hS:EnvS Tryz.prog pf (QaE code QaA) (QbZ code pf QaA (fun _=>none)))(h0:HeapOK g0 H0 w0)(hr:r<H0.length)(hl:lim≤r)(hlim:lim≤H0.length)(hs:s.length≤16384){b:Nat}:
  ∀(m:Nat) {acc:Tx} {q f:Nat} {g:Gh} {a:Act} {w:World} {x:Nat→AV},m=s.length-q→q≤s.length→acc.length≤4*q→s.length-q+1≤f→Qb6 s p=QcI s f acc q→TI g0 w0 H0.length b acc g w→
   Inv g ⟨TS r H0.length x,H0.set r (rdO s q)++ [.dead]⟩ a w→Qe8 Tryz.prog Qke (Exit.inBlock 0 (BP g0 w0 H0 lim r s p)) a w:=by
 intro m
 induction m using Nat.strongRecOn with
 |_ m ih=>
 intro acc q f g a w x hm hq hac hf hts hti hinv
 obtain⟨f,rfl⟩:∃k,f=k+1:=⟨f-1,by omega⟩
 rw[chars_eq]at hts
 have hll:∀o:AObj,lim≤(H0.set r o++ [AObj.dead]).length:=fun o=>by simp;omega
 have gr:=QmZ hr (rdO s q)
 refine Qca (wp_block (wp_seq (Qei hS k41_3 rfl hinv (hll _) (v41_3 x gr hq) ?_ (fun _ h=>h.elim))))
 rintro e st1 g1 a1 w1 ⟨rfl,x1,rfl⟩ hw1 hi1 hx1
 have ht1:=hti.step hw1
 generalize hc:nx s q=c at hi1
 obtain⟨bb,hbb⟩:∃bb,bb=(decide (q=s.length)||decide (c.toNat<32)):=⟨_,rfl⟩
 show Code.wp Tryz.prog (.block 2 _) _ a1 w1
 refine wp_block (wp_seq (Qei hS k41_6 rfl hi1 (hll _) (v41_6 x1 gr c bb hbb) ?_ (fun _ h=>h.elim)))
 rintro e st2 g2 a2 w2 ⟨rfl,x2,rfl⟩ hw2 hi2 hx2
 have ht2:=ht1.step hw2
 show Code.wp Tryz.prog (.cond (.tmp 18) _ _) _ a2 w2
 refine wp_cond (Inv.bool (b:=bb) hi2 rfl) ?_
 cases bb with
 |true=>
  have he:Qb6 s p= .error (11,q):=by
   rw[hts]
   by_cases hqe:q=s.length
   ·rw[List.getElem?_eq_none (by omega)]
   ·have hql:q<s.length:=by omega
    have:s[q]? =some c:=by rw[QcD hql,hc]
    have h32:c.toNat<32:=by
     rcases Bool.or_eq_true_iff.1 hbb.symm with h|h
     ·exact absurd (of_decide_eq_true h) hqe
     ·exact of_decide_eq_true h
    rw[this]
    simp only[if_pos h32]
  rw[if_pos rfl]
  refine Qei hS k41_7 rfl hi2 (hll _) (v41_7 x2 gr c true) (fun _ _ _ _ _ h=>h.elim) ?_
  rintro _ rfl
  intro g' H' v a' w' k0 k1 kx k2 k3
  exact Qjq ht2.wf (kk_ext hl hlim _) he g' H' v a' w' k0 k1 kx k2 k3
 |false=>
  have hbf:=Bool.or_eq_false_iff.1 hbb.symm
  have hqe:¬q=s.length:=of_decide_eq_false hbf.1
  have h32:¬c.toNat<32:=of_decide_eq_false hbf.2
  have hql:q<s.length:=by omega
  have hsq:s[q]? =some c:=by rw[QcD hql,hc]
  rw[hsq]at hts
  simp only[if_neg h32]at hts
  rw[if_neg (by simp)]
  obtain⟨b2,hb2⟩:∃b2,((c.toNat:Int)==34)=b2:=⟨_,rfl⟩
  refine wp_seq (Qei hS k41_8 rfl hi2 (hll _) (v41_8 x2 c false b2 hb2) ?_ (fun _ h=>h.elim))
  rintro e st3 g3 a3 w3 ⟨rfl,x3,rfl⟩ hw3 hi3 hx3
  have ht3:=ht2.step hw3
  show Code.wp Tryz.prog (.cond (.tmp 39) _ _) _ a3 w3
  refine wp_cond (Inv.bool (b:=b2) hi3 rfl) ?_
  by_cases h34:c=34
  ·obtain rfl:b2=true:=by rw[←hb2];exact QkU h34 rfl
   rw[if_pos h34]at hts
   rw[if_pos rfl]
   refine wp_seq (Qei hS k41_9 rfl hi3 (hll _) (v41_9 (fun i=>if i=4 then .d (.int .u8 c.toNat)else if i=39 then boolD true else x3 i) gr hl (by omega)) ?_ (fun _ h=>h.elim))
   rintro e st4 g4 a4 w4 ⟨rfl,x4,rfl⟩ hw4 hi4 hx4
   have ht4:=ht3.step hw4
   rw[Qky hr]at hi4
   show Code.wp Tryz.prog (.seq QcX .ret) _ a4 w4
   obtain⟨row,hbl,hmv,hwr⟩:=ht4.use h0 hi4.heap
   rw[r10_eq]
   refine wp_seq (wp_region_list ?_)
   have hp3:a4.eval (.tmp 3)= .pointer (some ⟨b,0,none⟩):=by
    rw[Inv.ptr (n:=H0.length) hi4 rfl,ht4.rho]
   refine Qf6 o10_0.2.1 o10_0.1 fn58 (R:=fun e w'=>e= .returned (.string ⟨acc.toArray⟩)∧Mv b row w4 w') ?_ ?_
   ·rw[show(#[Operand.tmp 3].map a4.eval)= #[a4.eval (.tmp 3)] by simp,hp3]
    exact str_any hbl
   rintro e w5 ⟨rfl,hm5⟩
   refine⟨_,rfl, ?_⟩
   obtain⟨hf5,hwf5⟩:=hmv w5 hm5
   have hi5:=hf5.inv hi4
   rw[o10_0.2.2]
   have hi6:=hi5.put (d:=49) (x:= .d (.str acc)) (v:= .string ⟨acc.toArray⟩) (.d _ _ (.str _ _ rfl)) (Triv.d _ _)
   refine Qey (lim:=lim) (hS.e 0) _ _ c10_1 hi6 (by simpa using hll (rdO s (q+1))) (show runOps _ _ _ _=some ⟨((TS r H0.length x4).set 49 (.d (.str acc))).set 2 (.d (.str acc)),H0.set r (rdO s (q+1))++ [.dead]⟩from rfl) ?_
   intro g7 a7 w7 hw7 hi7 hx7
   refine wp_ret ?_
   obtain⟨v,hv1,hv2,hv3⟩:=Qeq hi7 res41 (show Qbw _ _ [.t 2]=some [.d (.str acc)]from rfl)
   refine⟨hi7.defers,v,hv1,.inl ⟨acc,q+1,v,g7.cut w7 H0.length,hts,rfl,Qj1 (hwf5.trans hw7) h0.n, ?_, ?_⟩⟩
   ·exact QiH h0 hi7.heap hr (QmZ hr _) rfl (by rw[List.take_append_of_le_length (by simp),List.take_of_length_le (by simp)])
   ·cases hv2 with
    |d _ _ h=>cases h with|str _ _ h=>exact .d _ _ (.str _ _ h)
  ·obtain rfl:b2=false:=by rw[←hb2];exact Qi9 h34 rfl
   rw[if_neg h34]at hts
   rw[if_neg (by simp)]
   obtain⟨b3,hb3⟩:∃b3,((c.toNat:Int)==92)=b3:=⟨_,rfl⟩
   refine wp_seq (Qei hS k41_11 rfl hi3 (hll _) (v41_11 x3 c false b3 hb3) ?_ (fun _ h=>h.elim))
   rintro e st4 g4 a4 w4 ⟨rfl,x4,rfl⟩ hw4 hi4 hx4
   have ht4:=ht3.step hw4
   show Code.wp Tryz.prog (.cond (.tmp 50) _ _) _ a4 w4
   refine wp_cond (Inv.bool (b:=b3) hi4 rfl) ?_
   by_cases h92:c=92
   ·obtain rfl:b3=true:=by rw[←hb3];exact QkU h92 rfl
    rw[if_pos h92]at hts
    rw[if_pos rfl]
    refine wp_seq (Qei hS k41_12 rfl hi4 (hll _) (v41_12 (fun i=>if i=4 then .d (.int .u8 c.toNat)else if i=50 then boolD true else x4 i) gr hl (by omega)) ?_ (fun _ h=>h.elim))
    rintro e st5 g5 a5 w5 ⟨rfl,x5,rfl⟩ hw5 hi5 hx5
    have ht5:=ht4.step hw5
    rw[Qky hr]at hi5
    show Code.wp Tryz.prog Qbz _ a5 w5
    have hev:=esc_ev (pr:=QaA) (pP:=fun _=>none) lim _ r s (q+1) (QmZ hr (rdO s (q+1))) hl hs (by omega) (by omega)
    cases hes:QgA s (q+1)with
    |error er=>
     rw[hes]at hts
     refine Qei hS k41_13 rfl hi5 (hll _) (v41_13 x5 (hev.noJ hes)) (fun _ _ _ _ _ h=>h.elim) ?_
     rintro _ rfl
     intro g' H' v a' w' k0 k1 kx k2 k3
     exact Qjq ht5.wf (kk_ext hl hlim _) hts g' H' v a' w' k0 k1 kx k2 k3
    |ok y=>
     obtain⟨n,q2⟩:=y
     rw[hes]at hts
     have hn:=esc_rune hes
     have hq2:=Qnf hes
     have hev2:=hev.okJ hes
     rw[Qky hr]at hev2
     obtain⟨k0,hk0⟩:∃k0,∀k,k0≤k→(QaE code QaA) k 193 lim [.ptr r 0] (H0.set r (rdO s (q+1))++ [.dead])=some (i32D n,H0.set r (rdO s q2)++ [.dead]):=Ev.out hev2
     have hk1:=hk0 k0 (Nat.le_refl _)
     rw[r13_eq]
     refine wp_region_list ?_
     refine Qbn (lim:=lim) (st':=⟨[.ptr r 0,x5 1,x5 2,.ptr H0.length 0,x5 4,x5 5,x5 6,x5 7,x5 8,x5 9,x5 10,x5 11,x5 12,x5 13,x5 14,x5 15,x5 16,x5 17,x5 18,x5 19,x5 20,x5 21,x5 22,x5 23,x5 24,x5 25,x5 26,x5 27,x5 28,x5 29,x5 30,x5 31,x5 32,x5 33,x5 34,x5 35,x5 36,x5 37,x5 38,x5 39,x5 40,x5 41,x5 42,x5 43,x5 44,x5 45,x5 46,x5 47,x5 48,x5 49,x5 50,x5 51,x5 52,x5 53,x5 54,x5 55,x5 56,x5 57,x5 58,x5 59,.ptr r 0,x5 61,x5 62],_⟩) c13_0 (hS.e k0) hi5 (hll _) (by simp only[zz,simprocAttr];rfl) ?_
     intro g6 a6 w6 hw6 hi6 hx6
     have ht6:=ht5.step hw6
     refine Qbn (lim:=lim) (st':=⟨[.ptr r 0,x5 1,x5 2,.ptr H0.length 0,x5 4,x5 5,x5 6,x5 7,x5 8,x5 9,x5 10,x5 11,x5 12,x5 13,x5 14,x5 15,x5 16,x5 17,x5 18,x5 19,x5 20,x5 21,x5 22,x5 23,x5 24,x5 25,x5 26,x5 27,x5 28,x5 29,x5 30,x5 31,x5 32,x5 33,x5 34,x5 35,x5 36,x5 37,x5 38,x5 39,x5 40,x5 41,x5 42,x5 43,x5 44,x5 45,x5 46,x5 47,x5 48,x5 49,x5 50,x5 51,x5 52,x5 53,x5 54,x5 55,x5 56,x5 57,x5 58,x5 59,.ptr r 0,i32D n,x5 62],_⟩) c13_1 (hS.e k0) hi6 (hll _) (by simp only[zz,simprocAttr,hk1];rfl) ?_
     intro g7 a7 w7 hw7 hi7 hx7
     have ht7:=ht6.step hw7
     obtain⟨row,hbl,hmv,hwr⟩:=ht7.use h0 hi7.heap
     have hp3:a7.eval (.tmp 3)= .pointer (some ⟨b,0,none⟩):=by
      rw[Inv.ptr (n:=H0.length) hi7 rfl,ht7.rho]
     have hp61:a7.eval (.tmp 61)= .int .i32 n:=Inv.num hi7 rfl
     refine Qf6 o13_2.2.1 o13_2.1 fn59 (R:=fun e w'=>(∃v,e= .returned v)∧QnC b (acc++QcP n) row w7 w') ?_ ?_
     ·rw[show(#[Operand.tmp 3,Operand.tmp 61].map a7.eval)= #[a7.eval (.tmp 3),a7.eval (.tmp 61)] by simp,hp3,hp61]
      exact wr_any n hn hbl (by omega)
     rintro e w8 ⟨⟨v,rfl⟩,hm8⟩
     refine⟨_,rfl, ?_⟩
     obtain⟨hf8,ht8⟩:=hwr w8 _ hm8
     rw[o13_2.2.2]
     have hi8:=(hf8.inv hi7).put (d:=62) (x:= .undef) (v:=v) (.undef _) (fun _ e=>by cases e)
     show Qe8 Tryz.prog Qke _ _ _
     have hlen:=Ql4 n
     exact ih (s.length-q2) (by omega) (x:=fun i=>(([.ptr r 0,x5 1,x5 2,.ptr H0.length 0,x5 4,x5 5,x5 6,x5 7,x5 8,x5 9,x5 10,x5 11,x5 12,x5 13,x5 14,x5 15,x5 16,x5 17,x5 18,x5 19,x5 20,x5 21,x5 22,x5 23,x5 24,x5 25,x5 26,x5 27,x5 28,x5 29,x5 30,x5 31,x5 32,x5 33,x5 34,x5 35,x5 36,x5 37,x5 38,x5 39,x5 40,x5 41,x5 42,x5 43,x5 44,x5 45,x5 46,x5 47,x5 48,x5 49,x5 50,x5 51,x5 52,x5 53,x5 54,x5 55,x5 56,x5 57,x5 58,x5 59,.ptr r 0,i32D n,x5 62]).set 62 AV.undef).getD i .undef) rfl hq2.2 (by simp;omega) (by omega) hts ht8 hi8
   ·obtain rfl:b3=false:=by rw[←hb3];exact Qi9 h92 rfl
    rw[if_neg h92]at hts
    rw[if_neg (by simp)]
    rw[r4_eq]
    refine wp_seq (wp_region_list ?_)
    refine Qbn (lim:=lim) (st':=⟨[.ptr r 0,x4 1,x4 2,.ptr H0.length 0,.d (.int .u8 c.toNat),x4 5,x4 6,x4 7,x4 8,.d (.int .u8 c.toNat),x4 10,x4 11,x4 12,x4 13,x4 14,x4 15,x4 16,x4 17,x4 18,x4 19,x4 20,x4 21,x4 22,x4 23,x4 24,x4 25,x4 26,x4 27,x4 28,x4 29,x4 30,x4 31,x4 32,x4 33,x4 34,x4 35,x4 36,x4 37,x4 38,x4 39,x4 40,x4 41,x4 42,x4 43,x4 44,x4 45,x4 46,x4 47,x4 48,x4 49,boolD false,x4 51,x4 52,x4 53,x4 54,x4 55,x4 56,x4 57,x4 58,x4 59,x4 60,x4 61,x4 62],_⟩) c4_0 (hS.e 0) hi4 (hll _) (by simp only[zz,simprocAttr];rfl) ?_
    intro g6 a6 w6 hw6 hi6 hx6
    have ht6:=ht4.step hw6
    obtain⟨row,hbl,hmv,hwr⟩:=ht6.use h0 hi6.heap
    have hp3:a6.eval (.tmp 3)= .pointer (some ⟨b,0,none⟩):=by
     rw[Inv.ptr (n:=H0.length) hi6 rfl,ht6.rho]
    have hp9:a6.eval (.tmp 9)= .int .u8 c.toNat:=Inv.num hi6 rfl
    refine Qf6 o4_1.2.1 o4_1.1 fn61 (R:=fun e w'=>e= .returned .nilIface∧QnC b (acc++ [c]) row w6 w') ?_ ?_
    ·rw[show(#[Operand.tmp 3,Operand.tmp 9].map a6.eval)= #[a6.eval (.tmp 3),a6.eval (.tmp 9)] by simp,hp3,hp9]
     exact wb_any c hbl (by omega)
    rintro e w8 ⟨rfl,hm8⟩
    refine⟨_,rfl, ?_⟩
    obtain⟨hf8,ht8⟩:=hwr w8 _ hm8
    rw[o4_1.2.2]
    have hi8:=(hf8.inv hi6).put (d:=10) (x:= .undef) (v:= .nilIface) (.undef _) (fun _ e=>by cases e)
    show Code.wp Tryz.prog p41_5 _ _ w8
    refine Qei hS k41_5 rfl hi8 (hll _) (v41_5 (fun i=>([.ptr r 0,x4 1,x4 2,.ptr H0.length 0,.d (.int .u8 c.toNat),x4 5,x4 6,x4 7,x4 8,.d (.int .u8 c.toNat),x4 10,x4 11,x4 12,x4 13,x4 14,x4 15,x4 16,x4 17,x4 18,x4 19,x4 20,x4 21,x4 22,x4 23,x4 24,x4 25,x4 26,x4 27,x4 28,x4 29,x4 30,x4 31,x4 32,x4 33,x4 34,x4 35,x4 36,x4 37,x4 38,x4 39,x4 40,x4 41,x4 42,x4 43,x4 44,x4 45,x4 46,x4 47,x4 48,x4 49,boolD false,x4 51,x4 52,x4 53,x4 54,x4 55,x4 56,x4 57,x4 58,x4 59,x4 60,x4 61,x4 62].set 10 AV.undef).getD i .undef) gr hl (by omega)) ?_ (fun _ h=>h.elim)
    rintro e st9 g9 a9 w9 ⟨rfl,x9,rfl⟩ hw9 hi9 hx9
    have ht9:=ht8.step hw9
    rw[Qky hr]at hi9
    show Qe8 Tryz.prog Qke _ _ _
    exact ih (s.length-(q+1)) (by omega) (x:=x9) rfl (by omega) (by simp;omega) (by omega) hts ht9 hi9
end
end Go.Proofs.YtfoiaojdnmpgmaaGreatDoor
set_option maxHeartbeats 2000000
set_option linter.unusedVariables false
namespace Go.Proofs.YtfoiaojdnmpgmaaGreatDoor
open Go Go.Abs Go.Proofs Go.RowKit Go.Lib
theorem fn41:QhU Tryz.prog 167:=⟨_,Tryz.func167,by kernel_rfl,by kernel_rfl⟩
theorem body41:Tryz.f167.body=some b41:=by kernel_rfl
theorem nt41:Tryz.f167.ntmps=63:=by kernel_rfl
theorem Bld.new(w:World):Bld w.heap.size [] none (w.alloc (.cells #[.pointer none,.slice none 0 0] 180)):=
 ⟨.pointer none,.slice none 0 0,.inl rfl,⟨QaF _ _,⟨rfl,.inl ⟨rfl,rfl⟩⟩,by simp[Value.ownBlock],fun _=>rfl⟩,rfl⟩
theorem QgF(hS:EnvS Tryz.prog pf (QaE code QaA) (QbZ code pf QaA (fun _=>none))){g0:Gh}{w0:World}{H0:Qab}{lim r:Nat}{s:Tx}{p:Nat}(h0:HeapOK g0 H0 w0)(hn:∀b,g0.own b≠ .res)(gr:H0[r]? =some (rdO s p))(hl:lim≤r)(hlim:lim≤H0.length)(hs:s.length≤16384)(hp:p≤s.length)
  {vals:Array Value}(hv0:1=vals.size)(hv:∀(i:Nat) x v,[AV.ptr r 0][i]? =some x→vals[i]? =some v→VR g0 w0 x v∧FOK g0 w0 (.slot i) x v):
  Calls Tryz.prog 167 vals w0 (TRes g0 w0 H0 lim r s p):=by
 have hr:=(List.getElem?_eq_some_iff.1 gr).1
 refine calls_of_wp Tryz.func167 body41 ?_
 rw[nt41,b41_eq]
 have hi0:Inv g0 ⟨_,H0⟩ { tmps:=vals++Array.replicate (63-vals.size) undef,defers:= [] } w0:=QcC (args:= [.ptr r 0]) h0 hn hv0 hv 63
 refine wp_seq (Qei hS k41_0 rfl hi0 hlim (v41_0 (fun _=> .tuple [])) ?_ (fun _ h=>h.elim))
 rintro e st1 g1 a1 w1 ⟨rfl,x1,rfl⟩ hw1 hi1 hx1
 show Code.wp Tryz.prog (.seq p41_1 _) _ a1 w1
 refine wp_seq (Qei hS k41_1 rfl hi1 hlim (v41_1 x1 gr hl hs hp) ?_ ?_)
 rotate_left
 ·rintro _ ⟨hw,rfl⟩
  intro g' H' v a' w' k0 k1 kx k2 k3
  exact Qjq hw1 (Ext.refl _ _) (er:=(11,p)) (by unfold Qb6;rw[hw]) g' H' v a' w' k0 k1 kx k2 k3
 rintro e st2 g2 a2 w2 ⟨rfl,hw,x2,rfl⟩ hw2 hi2 hx2
 have hpl:=(QdE hw).2
 have hts:Qb6 s p=QcI s (s.length+1) [] (p+1):=by unfold Qb6;rw[hw]
 show Code.wp Tryz.prog (.seq p41_2 _) _ a2 w2
 refine wp_seq (r2_wp ?_)
 show Code.wp Tryz.prog (.block 0 (.loop Qke)) _ _ _
 have hlen:(H0.set r (rdO s (p+1))).length=H0.length:=List.length_set
 have hnn:g2.n=H0.length:=by rw[hi2.heap.n,hlen]
 have hnew:=hi2.heap.new w2.heap.size (Nat.le_refl _)
 have hf:Frn g2 w2 (w2.alloc (.cells #[.pointer none,.slice none 0 0] 180)):=⟨rfl,rfl,rfl,by simp,fun k hk _=>heap_alloc _ _ _ hk⟩
 have hi3:=hf.inv hi2
 have hw3:=hf.wf h0 (hw1.trans hw2) fun k hk=>heap_alloc _ _ _ (Nat.lt_of_lt_of_le hk (hw1.trans hw2).size)
 have hwd:=Qhj g2 (w2.alloc (.cells #[.pointer none,.slice none 0 0] 180)) w2.heap.size
 have hi4:Inv (g2.dead2 w2.heap.size) ⟨TS r H0.length (fun i=>if i=3 then .tuple []else x2 i),H0.set r (rdO s (p+1))++ [.dead]⟩ (a2.put (some 3) (.pointer (some ⟨w2.heap.size,0,none⟩))) (w2.alloc (.cells #[.pointer none,.slice none 0 0] 180)):=by
  have hrho:(g2.dead2 w2.heap.size).rho H0.length=w2.heap.size:=by simp[Gh.dead2,hnn]
  have hlt:H0.length<(g2.dead2 w2.heap.size).n:=by show H0.length<g2.n+1;omega
  have hvp:VR (g2.dead2 w2.heap.size) (w2.alloc (.cells #[.pointer none,.slice none 0 0] 180)) (.ptr H0.length 0) (.pointer (some ⟨w2.heap.size,0,none⟩)):=by
   have:=VR.ptr (g:=g2.dead2 w2.heap.size) (w:=w2.alloc (.cells #[.pointer none,.slice none 0 0] 180)) H0.length 0 hlt
   rwa [hrho]at this
  have hid:Inv (g2.dead2 w2.heap.size) ⟨[.ptr r 0,x2 1,x2 2,x2 3,x2 4,x2 5,x2 6,x2 7,x2 8,x2 9,x2 10,x2 11,x2 12,x2 13,x2 14,x2 15,x2 16,x2 17,x2 18,x2 19,x2 20,x2 21,x2 22,x2 23,x2 24,x2 25,x2 26,x2 27,x2 28,x2 29,x2 30,x2 31,x2 32,x2 33,x2 34,x2 35,x2 36,x2 37,x2 38,x2 39,x2 40,x2 41,x2 42,x2 43,x2 44,x2 45,x2 46,x2 47,x2 48,x2 49,x2 50,x2 51,x2 52,x2 53,x2 54,x2 55,x2 56,x2 57,x2 58,x2 59,x2 60,x2 61,x2 62],H0.set r (rdO s (p+1))++ [.dead]⟩ a2 (w2.alloc (.cells #[.pointer none,.slice none 0 0] 180)):=
   ⟨Qlr hi3.heap _,hi3.size,fun i y v hy hv=>⟨hwd.vr (hi3.tok i y v hy hv).1,(hi3.tok i y v hy hv).2.keep fun b hb=>⟨hb,rfl,fun cs e fr hh hz=>⟨cs,fr,hh,rfl,hz⟩⟩⟩,hi3.nores,hi3.defers⟩
  exact hid.put (d:=3) hvp (fun _ e=>by cases e)
 have hti:TI g0 w0 H0.length w2.heap.size [] (g2.dead2 w2.heap.size) (w2.alloc (.cells #[.pointer none,.slice none 0 0] 180)):=
  ⟨hw3.trans hwd,by show H0.length<g2.n+1;omega,by simp[Gh.dead2,hnn],⟨(hw1.trans hw2).size,hnew.1,hnew.2⟩,none,Bld.new w2,fun k hk=>by cases hk⟩
 exact wp_block (QfU (QlV hS h0 hr hl hlim hs (s.length-(p+1)) (x:=fun i=>if i=3 then .tuple []else x2 i) rfl hpl (by simp) (by omega) hts hti hi4))
end Go.Proofs.YtfoiaojdnmpgmaaGreatDoor
set_option maxHeartbeats 1000000
namespace Go.Proofs.YtfoiaojdnmpgmaaGreatDoor
open Go Go.Abs Go.Proofs Go.RowKit Go.Lib
theorem QlW{lim:Nat}{args:List AV}{H H':Qab}{v:AV}(h:QhZ lim args H=some (v,H')):
  ∃r s p t q,args= [.ptr r 0]∧H[r]? =some (rdO s p)∧lim≤r∧p≤s.length∧s.length≤16384∧Qb6 s p= .ok (t,q)∧v= .d (.str t)∧H'=H.set r (rdO s q):=by
 unfold QhZ at h
 split at h
 ·rename_i r
  split at h
  ·rename_i s p hg
   split at h
   ·rename_i hc
    split at h
    ·rename_i t q ht
     simp only[Option.some.injEq,Prod.mk.injEq]at h
     obtain⟨rfl,rfl⟩:=h
     obtain⟨n,rfl⟩:∃n:Nat,p=(n:Int):=⟨p.toNat,by omega⟩
     exact⟨r,s,n,t,q,rfl,hg,hc.1,by omega,hc.2.2.2,ht,rfl,rfl⟩
    ·cases h
   ·cases h
  ·cases h
 ·cases h
theorem QkW{lim:Nat}{args:List AV}{H:Qab}{v:PV}(h:QfA lim args H=some v):
  ∃r s p er,args= [.ptr r 0]∧H[r]? =some (rdO s p)∧lim≤r∧p≤s.length∧s.length≤16384∧Qb6 s p= .error er∧v=Qc1 er.1 er.2:=by
 unfold QfA at h
 split at h
 ·rename_i r
  split at h
  ·rename_i s p hg
   split at h
   ·rename_i hc
    split at h
    ·cases h
    ·rename_i e q ht
     simp only[Option.some.injEq]at h
     subst h
     obtain⟨n,rfl⟩:∃n:Nat,p=(n:Int):=⟨p.toNat,by omega⟩
     exact⟨r,s,n,(e,q),rfl,hg,hc.1,by omega,hc.2.2.2,ht,rfl⟩
   ·cases h
  ·cases h
 ·cases h
theorem text_sound(hS:EnvS Tryz.prog pf X1 XP1):FSound Tryz.prog 167 QhZ:=by
 intro lim args H a H' h hlim
 obtain⟨r,s,p,t,q,rfl,gr,hl,hp,hs,ht,rfl,rfl⟩:=QlW h
 refine⟨Ext.set _ hl,fun vals g w hH hn hv0 hv=> .inl ⟨fn41,(QgF hS hH hn gr hl hlim hs hp hv0 hv).mono ?_⟩⟩
 rintro e w' (⟨t',q',v,g',h1,rfl,h2,h3,h4⟩|⟨er,v,g',H',h1,_⟩)
 ·rw[ht]at h1;cases h1
  exact⟨v,g',rfl,h2,h3,h4,FOK.triv (Triv.d _ _)⟩
 ·rw[ht]at h1;cases h1
theorem Qja(hS:EnvS Tryz.prog pf X1 XP1):PSound Tryz.prog 167 QfA:=by
 intro lim args H t x h hlim
 obtain⟨r,s,p,er,rfl,gr,hl,hp,hs,ht,hv⟩:=QkW h
 cases hv
 refine⟨fn41,fun vals g w hH hn hv0 hv=>(QgF hS hH hn gr hl hlim hs hp hv0 (fun i x v h1 h2=>⟨(hv i x v h1 h2).1,FOK.triv (hv i x v h1 h2).2⟩)).mono ?_⟩
 rintro e w' (⟨t',q',v,g',h1,_⟩|⟨er',v,g',H',h1,rfl,h2,h3,h4,h5⟩)
 ·rw[ht]at h1;cases h1
 ·rw[ht]at h1;cases h1
  exact⟨v,g',H',rfl,h2,h3,h4,h5⟩
end Go.Proofs.YtfoiaojdnmpgmaaGreatDoor
namespace Go.Proofs.YtfoiaojdnmpgmaaGreatDoor
open Go Go.Proofs
def renS:Go.Shelf.Ren:=⟨fun f=>(([(6,181),(15,200),(14,199),(28,218),(29,219),(20,210),(21,211),(22,212),(23,213),(24,214),(25,215),(26,216),(27,217),(46,229),(47,230),(48,231),(49,232),(50,233),(57,239)]:List (Nat×Nat)).lookup f).getD f,
 fun t=>(([(22,148),(24,3),(25,173),(3,3),(39,113),(0,0),(53,205),(55,175),(4,4),(46,199),(45,198),(50,187),(5,5),(9,9),(66,213),(70,217),(76,224),(77,129)]:List (Nat×Nat)).lookup t).getD t,fun g=>g⟩
theorem Qkx:SlLaysF.n6 Tryz.prog renS:=by
 constructor
 case f6=>first|exact⟨Tryz.f181.name,by decide,by kernel_rfl⟩|kernel_rfl
 case f15=>first|exact⟨Tryz.f200.name,by decide,by kernel_rfl⟩|kernel_rfl
 case f14=>first|exact⟨Tryz.f199.name,by decide,by kernel_rfl⟩|kernel_rfl
 case f28=>first|exact⟨Tryz.f218.name,by decide,by kernel_rfl⟩|kernel_rfl
 case f29=>first|exact⟨Tryz.f219.name,by decide,by kernel_rfl⟩|kernel_rfl
 case f20=>first|exact⟨Tryz.f210.name,by decide,by kernel_rfl⟩|kernel_rfl
 case f21=>first|exact⟨Tryz.f211.name,by decide,by kernel_rfl⟩|kernel_rfl
 case f22=>first|exact⟨Tryz.f212.name,by decide,by kernel_rfl⟩|kernel_rfl
 case f23=>first|exact⟨Tryz.f213.name,by decide,by kernel_rfl⟩|kernel_rfl
 case f24=>first|exact⟨Tryz.f214.name,by decide,by kernel_rfl⟩|kernel_rfl
 case f25=>first|exact⟨Tryz.f215.name,by decide,by kernel_rfl⟩|kernel_rfl
 case f26=>first|exact⟨Tryz.f216.name,by decide,by kernel_rfl⟩|kernel_rfl
 case f27=>first|exact⟨Tryz.f217.name,by decide,by kernel_rfl⟩|kernel_rfl
 case f46=>first|exact⟨Tryz.f229.name,by decide,by kernel_rfl⟩|kernel_rfl
 case f47=>first|exact⟨Tryz.f230.name,by decide,by kernel_rfl⟩|kernel_rfl
 case f48=>first|exact⟨Tryz.f231.name,by decide,by kernel_rfl⟩|kernel_rfl
 case f49=>first|exact⟨Tryz.f232.name,by decide,by kernel_rfl⟩|kernel_rfl
 case f50=>first|exact⟨Tryz.f233.name,by decide,by kernel_rfl⟩|kernel_rfl
 case f57=>first|exact⟨Tryz.f239.name,by decide,by kernel_rfl⟩|kernel_rfl
 all_goals first|kernel_rfl|exact fun w=>by kernel_rfl
end Go.Proofs.YtfoiaojdnmpgmaaGreatDoor
set_option maxHeartbeats 1000000
namespace Go.Proofs.YtfoiaojdnmpgmaaGreatDoor
open Go Go.Proofs Go.RowKit
def cmpB(ki kj:ByteArray):Int:=if Op.bytesLess ki.toList kj.toList then-1 else if ki.toList==kj.toList then 0 else 1
theorem gtr_run(a b:ByteArray)(w:World):(binOp .gtr 9 (.string a) (.string b)).run Tryz.prog w= .ok (.bool (!Op.bytesLess a.toList b.toList&& !a.toList==b.toList)) w:=by
 have u9:Tryz.prog.underlying 9=some .string:=by kernel_rfl
 simp[binOp,run_underlying u9,Op.stringOp]
theorem cmp63(W:World)(kb sb so n cap i j:Nat)(ki kj:ByteArray)(hk:W.cell? ⟨kb,0,none⟩=some (.slice (some ⟨sb,so,none⟩) n cap))(hi:i<n)(hj:j<n)
  (ci:W.cell? ⟨sb,so+i,none⟩=some (.string ki))(cj:W.cell? ⟨sb,so+j,none⟩=some (.string kj)):
  Calls Tryz.prog 182 #[.int .i64 i,.int .i64 j,.pointer (some ⟨kb,0,none⟩)] W fun e w'=>e= .returned (.int .i64 (cmpB ki kj))∧∃q,w'=W.drewN q:=by
 unfold cmpB
 cases h1:Op.bytesLess ki.toList kj.toList with
 |true=>
  go_enter Tryz.func182,Tryz.ntmps182
  go_wp2
  go_quiet (fail)
  go_wp2
  go_ret
  exact⟨rfl,_,rfl⟩
 |false=>
  have hg:=gtr_run ki kj
  simp only[h1]at hg
  cases h2:ki.toList==kj.toList with
  |true=>
   go_enter Tryz.func182,Tryz.ntmps182
   go_wp2
   go_quiet (fail)
   go_wp2
   go_quiet (fail)
   go_wp2
   go_ret
   exact⟨rfl,_,rfl⟩
  |false=>
   go_enter Tryz.func182,Tryz.ntmps182
   go_wp2
   go_quiet (fail)
   go_wp2
   go_quiet (fail)
   go_wp2
   go_ret
   exact⟨rfl,_,rfl⟩
end Go.Proofs.YtfoiaojdnmpgmaaGreatDoor
namespace Go.Proofs.YtfoiaojdnmpgmaaGreatDoor
open Go Go.Abs
theorem bless:∀(x y:List UInt8),Op.bytesLess x y=decide (x<y)
 | [],[]=>by simp[Op.bytesLess]
 |_::_,[]=>by simp[Op.bytesLess]
 | [],_::_=>by simp[Op.bytesLess]
 |a::x,b::y=>by
  rw[Op.bytesLess,bless x y]
  simp only[List.cons_lt_cons_iff]
  by_cases h1:a<b<;>by_cases h2:a=b<;>by_cases h3:x<y<;>simp[h1,h2,h3]
theorem Qfz(a b:Tx):tless a b=true↔a<b:=by rw[tless,bless];simp
abbrev QfX(ks:List Tx)(i:Nat):Tx:=ks.getD i []
theorem Qf0(ks:List Tx)(i:Nat):∀l:List Nat,(insK ks i l).Perm (i::l)
 | []=> .refl _
 |j::l=>by
  unfold insK
  split
  ·exact((Qf0 ks i l).cons j).trans (.swap i j l)
  ·exact .refl _
theorem QgJ(ks:List Tx):∀l:List Nat,(Qk3 ks l).Perm l
 | []=> .refl _
 |i::l=>(Qf0 ks i _).trans ((QgJ ks l).cons i)
abbrev leK(ks:List Tx)(i j:Nat):Prop:=¬QfX ks j<QfX ks i
theorem QiA{ks:List Tx}{i j k:Nat}(h1:leK ks i j)(h2:leK ks j k):leK ks i k:=by
 unfold leK at*
 rw[List.not_lt]at*
 exact List.le_trans h1 h2
theorem QfZ(ks:List Tx)(i:Nat):∀l:List Nat,l.Pairwise (leK ks)→(insK ks i l).Pairwise (leK ks)
 | [],_=>by simp[insK]
 |j::l,h=>by
  unfold insK
  obtain⟨h1,h2⟩:=List.pairwise_cons.1 h
  split
  ·rename_i hc
   rw[Qfz]at hc
   refine List.pairwise_cons.2 ⟨fun k hk=> ?_,QfZ ks i l h2⟩
   rcases List.mem_cons.1 ((Qf0 ks i l).mem_iff.1 hk)with rfl|hk
   ·exact fun h=>List.lt_irrefl _ (List.lt_trans h hc)
   ·exact h1 k hk
  ·rename_i hc
   rw[Qfz]at hc
   refine List.pairwise_cons.2 ⟨fun k hk=> ?_,h⟩
   rcases List.mem_cons.1 hk with rfl|hk
   ·exact hc
   ·exact QiA hc (h1 k hk)
theorem QeU(ks:List Tx):∀l:List Nat,(Qk3 ks l).Pairwise (leK ks)
 | []=>by simp[Qk3]
 |i::l=>QfZ ks i _ (QeU ks l)
theorem QdN(ks:List Tx):(Qbi ks).Perm (List.range ks.length):=QgJ ks _
theorem QcU(ks:List Tx):(Qbi ks).length=ks.length:=by rw[(QdN ks).length_eq,List.length_range]
theorem QlF{ks:List Tx}{i:Nat}:i∈Qbi ks↔i<ks.length:=by rw[(QdN ks).mem_iff,List.mem_range]
theorem QiX{ks:List Tx}{i:Nat}(h:i∈Qbi ks):i<ks.length:=QlF.1 h
theorem QiC{ks:List Tx}(hd:ks.Nodup){i j:Nat}(hi:i<ks.length)(hj:j<ks.length)(h:QfX ks i=QfX ks j):i=j:=by
 simp only[QfX,List.getD,List.getElem?_eq_getElem hi,List.getElem?_eq_getElem hj,Option.getD_some]at h
 exact(List.getElem?_inj hi hd).1 (by rw[List.getElem?_eq_getElem hi,List.getElem?_eq_getElem hj,h])
theorem leK_anti{ks:List Tx}(hd:ks.Nodup){i j:Nat}(hi:i<ks.length)(hj:j<ks.length)(h1:leK ks i j)(h2:leK ks j i):i=j:=by
 refine QiC hd hi hj ?_
 unfold leK at h1 h2
 rw[List.not_lt]at h1 h2
 exact List.le_antisymm h1 h2
theorem QhP{ks:List Tx}(hd:ks.Nodup){l:List Nat}(hp:l.Perm (List.range ks.length))(hs:l.Pairwise (leK ks)):l=Qbi ks:=by
 refine List.Perm.eq_of_pairwise (le:=leK ks) (fun a b ha hb h1 h2=> ?_) hs (QeU ks _) (hp.trans (QdN ks).symm)
 exact leK_anti hd (List.mem_range.1 (hp.mem_iff.1 ha)) (QiX hb) h1 h2
theorem QcB(a b:Tx):(!tless b a)=true↔¬b<a:=by rw[←Qfz];cases tless b a<;>simp
theorem QiW{ks:List Tx}(hd:ks.Nodup):(List.range ks.length).mergeSort (fun i j=> !tless (QfX ks j) (QfX ks i))=Qbi ks:=by
 refine QhP hd (List.mergeSort_perm _ _) ?_
 have:=List.pairwise_mergeSort (le:=fun i j=> !tless (QfX ks j) (QfX ks i)) (fun a b c h1 h2=> ?_) (fun a b=> ?_) (List.range ks.length)
 ·exact this.imp fun{a b} h=>(QcB _ _).1 h
 ·exact(QcB _ _).2 (QiA (ks:=ks) (i:=a) (j:=b) (k:=c) ((QcB _ _).1 h1) ((QcB _ _).1 h2))
 ·rw[Bool.or_eq_true,QcB,QcB]
  by_cases h:QfX ks b<QfX ks a
  ·exact .inr fun h2=>List.lt_irrefl _ (List.lt_trans h h2)
  ·exact .inl h
end Go.Proofs.YtfoiaojdnmpgmaaGreatDoor
set_option maxHeartbeats 1000000
namespace Go.Proofs.YtfoiaojdnmpgmaaGreatDoor
open Go Go.Abs Go.Proofs Go.RowKit Go.Lib
theorem Qh0:∀ {xs:List D} {ks:List Tx},Qc0 xs=some ks→xs=ks.map D.str
 | [],_,h=>by cases h;rfl
 |.str s::l,ks,h=>by
  simp only[Qc0,Option.map_eq_some_iff]at h
  obtain⟨r,h1,rfl⟩:=h
  rw[Qh0 h1];rfl
 |.int _ _::_,_,h=>by simp[Qc0]at h
 |.bool _::_,_,h=>by simp[Qc0]at h
 |.agg _::_,_,h=>by simp[Qc0]at h
 |.slice _::_,_,h=>by simp[Qc0]at h
 |.nilptr::_,_,h=>by simp[Qc0]at h
theorem Ql2{lim:Nat}{args:List AV}{H H':Qab}{a:AV}(h:Qjg lim args H=some (a,H')):
  ∃r k c ks,args= [.oslice r 0 ks.length c 1,.func (.func 182) [.ptr k 0]]∧H[r]? =some (.cells ((List.range ks.length).map fun(i:Nat)=>intD (i:Int)))∧H[k]? =some (.cells [.d (.slice (ks.map D.str))])∧lim≤r∧r≠k∧ks.length<1000000000000∧ks.Nodup∧a= .tuple []∧
   H'=H.set r (.cells ((Qbi ks).map fun(i:Nat)=>intD (i:Int))):=by
 unfold Qjg at h
 split at h
 ·rename_i r n c k
  split at h
  ·rename_i cs xs h1 h2
   split at h
   ·rename_i ks h3
    split at h
    ·rename_i hc
     obtain⟨c1,c2,c3,c4,c5,c6,c7⟩:=hc
     simp only[Option.some.injEq,Prod.mk.injEq]at h
     obtain⟨rfl,rfl⟩:=h
     subst c3
     have e:=AV.beqs_eq c7
     subst e
     rw[Qh0 h3]at h2
     exact⟨r,k,c,ks,rfl,h1,h2,c1,c2,c4,c5,rfl,rfl⟩
    ·cases h
   ·cases h
  ·cases h
 ·cases h
def bytesV:Value→ByteArray
 |.string s=>s
 |_=>default
theorem QkY{bd:Nat→Nat}{w:World}{ks:List Tx}{v:Value}(h:DR bd w (.slice (ks.map D.str)) v)(hne:ks≠ []):
  ∃b off cap,∃B:Nat→ByteArray,v= .slice (some ⟨b,off,none⟩) ks.length cap∧∀i,i<ks.length→off+i<bd b∧w.cell? ⟨b,off+i,none⟩=some (.string (B i))∧(B i).data.toList=ks.getD i []:=by
 generalize e:(D.slice (ks.map D.str))=x at h
 cases h with
 |slice xs b off len cap sz vs hlen hcap hu hf hc hd=>
  injection e with e
  subst e
  simp only[List.length_map]at hlen hc
  have hsz:sz=1:=by
   obtain⟨k,l,rfl⟩:=List.exists_cons_of_ne_nil hne
   have:=hu (.str k) (by simp)
   exact this.symm
  subst hsz
  refine⟨b,off,cap,fun i=>bytesV (vs i),by rw[hlen],fun i hi=> ?_⟩
  obtain⟨q1,q2⟩:=hc i (by omega)
  have q3:=hd i 0 (.str ks[i]) (.str ks[i]) (by rw[List.getElem?_map,List.getElem?_eq_getElem hi];rfl) rfl
  simp only[Nat.mul_one,Nat.add_zero]at q3
  refine⟨q1, ?_, ?_⟩<;>simp only
  ·generalize vs i=u at q3 q2
   cases q3 with
   |str _ s hs=>exact q2
  ·generalize vs i=u at q3 q2
   cases q3 with
   |str _ s hs=>rw[show bytesV (.string s)=s from rfl,hs];simp only[List.getD,List.getElem?_eq_getElem hi,Option.getD_some]
 |slnil=>injection e with e;simp at e;exact absurd e hne
 |sle a cap=>injection e with e;simp at e;exact absurd e hne
 |_=>cases e
theorem fin_vals(n:Nat):(List.finRange n).map Fin.val=List.range n:=by
 apply List.ext_getElem<;>simp
theorem fn62:QhU Tryz.prog 181:=⟨_,Tryz.func181,by kernel_rfl,by kernel_rfl⟩
theorem cmpB_lt(a b:ByteArray):decide (cmpB a b<0)=decide (a.data.toList<b.data.toList):=by
 unfold cmpB
 rw[bless,toList_data,toList_data]
 by_cases h:a.data.toList<b.data.toList
 ·simp[h]
 ·simp only[h,decide_false,Bool.false_eq_true,if_false]
  split<;>simp
theorem Qk2{g:Gh}{w:World}{H:Qab}(hH:HeapOK g H w){r k c:Nat}{ks:List Tx}
  (gr:H[r]? =some (.cells ((List.range ks.length).map fun(i:Nat)=>intD (i:Int))))(gk:H[k]? =some (.cells [.d (.slice (ks.map D.str))]))(hrk:r≠k)(hn:ks.length<1000000000000)(hd:ks.Nodup){vals:Array Value}(hv0:2=vals.size)
  (hv:∀(i:Nat) x v,[AV.oslice r 0 ks.length c 1,.func (.func 182) [.ptr k 0]][i]? =some x→vals[i]? =some v→VR g w x v∧FOK g w (.slot i) x v):
  Calls Tryz.prog 181 vals w fun e w'=>∃v g',e= .returned v∧WF g w g' w'∧HeapOK g' (H.set r (.cells ((Qbi ks).map fun(i:Nat)=>intD (i:Int)))) w'∧VR g' w' (.tuple []) v∧FOK g' w' .res (.tuple []) v:=by
 obtain⟨v0,v1,rfl⟩:∃v0 v1,vals= #[v0,v1]:=⟨vals[0],vals[1],by
  apply Array.ext
  ·simpa using hv0.symm
  ·intro i h1 h2
   simp at h2
   rcases(by omega:i=0∨i=1)with rfl|rfl<;>rfl⟩
 have hv1:=(hv 0 _ v0 rfl rfl).1
 have hv2:=(hv 1 _ v1 rfl rfl).1
 obtain⟨hrn,vs,e,fr,h1,⟨h2a,h2b⟩,h3,h4,h5⟩:=hH.get gr
 obtain⟨hkn,us,e',fr',k1,⟨k2a,k2b⟩,k3,k4,k5⟩:=hH.get gk
 have har:=Qck gr (by simp)
 have hak:=Qck gk (by simp)
 have hb:g.rho r<w.heap.size:=hH.rho_lt hrn har
 simp only[List.length_map,List.length_range]at h2a
 cases hv1 with
 |osl _ _ _ _ cap' _ q1 q2 q3 q4=>
 cases hv2 with
 |func _ _ vs2 p1 p2 p3=>
 obtain⟨u0,rfl⟩:∃u0,vs2= #[u0]:=⟨vs2[0]'(by simp at p1;omega),by
  apply Array.ext
  ·simp at p1⊢;omega
  ·intro i a b
   simp at b;subst b;rfl⟩
 have hp:=p2 0 _ u0 rfl rfl
 cases hp with
 |ptr _ _ hlt=>
 by_cases hne:ks= []
 ·subst hne
  have:=AnyF.slices_SortFunc_none (P:=Tryz.prog) (ρ:=renS) { Qkx with } (some ⟨g.rho r,0,none⟩) cap' (.func (.func 182) #[] #[.pointer (some ⟨g.rho k,0,none⟩)]) w
  refine Calls.mono this ?_
  rintro _ _ ⟨rfl,rfl⟩
  refine⟨_,g,rfl,.refl _ _, ?_,.tuple [] #[] rfl (fun i c v h=>by simp at h) (fun i c v h=>by simp at h),FOK.ne (by simp)⟩
  have e1:H.set r (.cells ((Qbi []).map fun(i:Nat)=>intD (i:Int)))=H:=by
   apply List.ext_getElem?
   intro i
   rw[List.getElem?_set]
   split
   ·rename_i hi;subst hi
    rw[gr]
    simp[(List.getElem?_eq_some_iff.1 gr).1,Qbi,Qk3]
   ·rfl
  rw[e1];exact hH
 ·obtain⟨m,hm⟩:∃m,ks.length=m+1:=⟨ks.length-1,by have:=List.length_pos_iff.2 hne;omega⟩
  have u0v:∃u,us[0]? =some u∧DR g.bd w (.slice (ks.map D.str)) u:=by
   have:0<us.size:=by simp at k2a;omega
   refine⟨us[0],Array.getElem?_eq_getElem this, ?_⟩
   have:=(k5 0 _ us[0] rfl (Array.getElem?_eq_getElem this)).1
   cases this with
   |d _ _ h=>exact h
  obtain⟨u,hu0,hu⟩:=u0v
  obtain⟨sb,so,scap,B,rfl,hB⟩:=QkY hu hne
  have hsb:sb≠g.rho r:=fun e=>by
   have:=(hB 0 (by omega)).1
   rw[e,(hH.own r hrn har).2]at this
   omega
  have hkb:g.rho k≠g.rho r:=fun e=>hrk (hH.rho_inj hrn hkn har hak e.symm)
  have hsbl:sb<w.heap.size:=hH.bd_lt (hB 0 (by omega)).1
  have hkbl:g.rho k<w.heap.size:=hH.rho_lt hkn hak
  have hinj:∀i j:Fin (m+1),(B i).data.toList=(B j).data.toList→i=j:=fun i j h=>by
   have hi:i.1<ks.length:=by omega
   have hj:j.1<ks.length:=by omega
   rw[(hB i.1 hi).2.2,(hB j.1 hj).2.2]at h
   exact Fin.ext (QiC hd hi hj h)
  let enc:Fin (m+1)→Value:=fun i=> .int .i64 (i.1:Nat)
  let cf:Fin (m+1)→Fin (m+1)→Int:=fun i j=>cmpB (B i) (B j)
  have hlt:∀i j,ltOf cf i j=decide ((B i).data.toList<(B j).data.toList):=fun i j=>cmpB_lt _ _
  have swo:Go.Sort.SWO (ltOf cf):=by
   refine⟨fun x=> ?_,fun x y z h1 h2=> ?_,fun x y z h1 h2=> ?_⟩
   ·rw[hlt];simp[List.lt_irrefl]
   ·rw[hlt]at*;simp only[decide_eq_true_eq]at*;exact List.lt_trans h1 h2
   ·rw[hlt]at*
    simp only[decide_eq_false_iff_not,List.not_lt]at*
    exact List.le_trans h2 h1
  have tot:∀x y,ltOf cf x y=false→ltOf cf y x=false→x=y:=fun x y h1 h2=>by
   rw[hlt]at h1 h2
   simp only[decide_eq_false_iff_not,List.not_lt]at h1 h2
   exact hinj x y (List.le_antisymm h2 h1)
  have eg:∀args w,(callFunc 182 args).run Tryz.prog w= .ok (.enter 182 args) w:=enters_of Tryz.func182 (by kernel_rfl) rfl
  let d:Array (Fin (m+1)):=(List.finRange (m+1)).toArray
  have hds:d.size=m+1:=by simp[d]
  have hdj:∀(j:Nat) (hj:j<m+1),d[j]! =⟨j,hj⟩:=fun j hj=>by
   rw[getElem!_pos d j (by omega)]
   simp[d]
  have hHd:Go.Sort.Holds enc w (g.rho r) 0 d:=fun j hj=>by
   rw[hds]at hj
   have hjs:j<vs.size:=by omega
   refine⟨?_, ?_⟩
   ·rw[Nat.zero_add,Qax h1,Array.getElem?_eq_getElem hjs]
    have:=(h5 j (intD (j:Nat)) vs[j] (by simp[List.getElem?_map,List.getElem?_range,hm,hj]) (Array.getElem?_eq_getElem hjs)).1
    rw[hdj j hj]
    generalize vs[j]=vj at this
    cases this with
    |d _ _ h=>cases h;rfl
   ·rw[Nat.zero_add];exact Qbe h1 h3 hjs
  have reads:CmpReads Tryz.prog 182 #[.pointer (some ⟨g.rho k,0,none⟩)] enc cf (g.rho r) 0 (m+1) w:=by
   intro q os dk hs x y
   have hx:x.1<ks.length:=by omega
   have hy:y.1<ks.length:=by omega
   have hcell:∀(b o:Nat),b≠g.rho r→b<w.heap.size→(sortWorld enc w (g.rho r) 0 q dk os).cell? ⟨b,o,none⟩=w.cell? ⟨b,o,none⟩:=fun b o h1 h2=>by
    unfold sortWorld
    rw[Go.Sort.cell?_grow _ _ _ (by simpa using h2),Go.Sort.cell?_putRow_other _ _ _ _ _ _ (.inl h1),Go.Sort.cell?_ahead]
   exact cmp63 _ (g.rho k) sb so ks.length scap x.1 y.1 (B x) (B y) (by rw[hcell _ _ hkb hkbl,Qax k1];exact hu0) hx hy (by rw[hcell _ _ hsb hsbl];exact(hB x.1 hx).2.1) (by rw[hcell _ _ hsb hsbl];exact(hB y.1 hy).2.1)
  have hS:=Any.slices_SortFunc_total Qkx enc (fun _=>rfl) cf swo 182 #[.pointer (some ⟨g.rho k,0,none⟩)] (g.rho r) 0 cap' d w eg (by rw[hds];exact reads.lays) hHd hb (by rw[hds];omega) tot
  rw[show d.size=ks.length by rw[hds,hm]]at hS
  refine Calls.mono hS ?_
  rintro _ _ ⟨rfl,q,os,rfl⟩
  have hrow:((List.finRange (m+1)).mergeSort fun x y=> !ltOf cf y x).map Fin.val=Qbi ks:=by
   rw[←QiW hd,List.map_mergeSort (s:=fun i j=> !tless (ks.getD j []) (ks.getD i [])),fin_vals,hm]
   intro i _ j _
   rw[hlt,tless,bless,(hB i.1 (by omega)).2.2,(hB j.1 (by omega)).2.2]
  have hys:(d.toList.mergeSort fun x y=> !ltOf cf y x)=((List.finRange (m+1)).mergeSort fun x y=> !ltOf cf y x):=rfl
  rw[hys]
  generalize hgy:((List.finRange (m+1)).mergeSort fun x y=> !ltOf cf y x)=ys at hrow
  have hyl:ys.length=m+1:=by rw[←hgy,List.length_mergeSort];simp
  rw[show sortWorld enc w (g.rho r) 0 q ys.toArray os=Go.Sort.grow ((w.drewN q).setCells (g.rho r) 0 (ys.map enc)) os from sorted_world enc w (g.rho r) 0 q d ys os hHd (by rw[hyl,hds])]
  have f1:Frn g w (w.drewN q):=⟨rfl,rfl,rfl,Nat.le_refl _,fun _ _ _=>rfl⟩
  have hH1:=f1.heap hH
  have hw1:WF g w g (w.drewN q):=f1.wf hH (.refl _ _) fun _ _=>rfl
  obtain⟨ht,hor,_⟩:=QcR (P:=Tryz.prog) hH1 (r:=r) (us:=ys.map enc) (ds:=(Qbi ks).map fun(i:Nat)=>intD (i:Int)) (off:=0) gr (by simp[hyl,hm]) (by rw[←hrow];simp) (fun c hc=>by
   obtain⟨i,_,rfl⟩:=List.mem_map.1 hc;rfl) (fun i c v hc hv=>by
   rw[←hrow]at hc
   simp only[List.getElem?_map,Option.map_map,Option.map_eq_some_iff]at hc hv
   obtain⟨a,ha,rfl⟩:=hc
   obtain⟨b,hb,rfl⟩:=hv
   rw[ha]at hb;cases hb
   exact⟨.d _ _ (.int _ _),FOK.triv (Triv.d _ _)⟩)
  have hspl:splice ((List.range ks.length).map fun(i:Nat)=>intD (i:Int)) 0 ((Qbi ks).map fun(i:Nat)=>intD (i:Int))=(Qbi ks).map fun(i:Nat)=>intD (i:Int):=by
   unfold splice
   rw[List.take_zero,List.nil_append,List.drop_eq_nil_of_le (by rw[←hrow];simp[hyl,hm]),List.append_nil]
  rw[hspl]at hor
  have hH2:=Qcf hH1 hrn har ht hor
  have hw2:=Qbb hH1 hrn har ht
  have f3:Frn g ((w.drewN q).setCells (g.rho r) 0 (ys.map enc)) (Go.Sort.grow ((w.drewN q).setCells (g.rho r) 0 (ys.map enc)) os):=⟨rfl,rfl,rfl,by simp,fun k hk _=>Go.Sort.heap_grow_old _ _ hk⟩
  have hH3:=f3.heap hH2
  have hw3:=f3.wf hH2 (.refl _ _) fun k hk=>Go.Sort.heap_grow_old _ _ hk
  exact⟨_,g,rfl,(hw1.trans hw2).trans hw3,hH3,.tuple [] #[] rfl (fun i c v h=>by simp at h) (fun i c v h=>by simp at h),FOK.ne (by simp)⟩
theorem Qk1:FSound Tryz.prog 181 Qjg:=by
 intro lim args H a H' h hlim
 obtain⟨r,k,c,ks,rfl,gr,gk,hl,hrk,hn,hd,rfl,rfl⟩:=Ql2 h
 exact⟨Ext.set _ hl,fun vals g w hH hn' hv0 hv=> .inl ⟨fn62,Qk2 hH gr gk hrk hn hd hv0 hv⟩⟩
end Go.Proofs.YtfoiaojdnmpgmaaGreatDoor
