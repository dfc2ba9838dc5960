/- Part 7. -/
import Derived.Test.YtfoiaojdnmpgmaaGreatDoorPartF
import Derived.Shelf.Strconv.Itoa1
import Derived.Shelf.Strconv.Itoa2
import Derived.Shelf.Small.Bits
import Derived.Lib.ItoaMem
import Derived.Shelf.Unicode.ValidAny
import Derived.Shelf.Unicode.DecodeAny
import Derived.Recover
import Derived.Lib.IndexBytes
import Derived.KernelRfl
import Derived.Test.YtfoiaojdnmpgmaaGreatDoorProg
set_option linter.all false
set_option maxRecDepth 100000
set_option maxHeartbeats 1000000
namespace Go.Proofs.YtfoiaojdnmpgmaaGreatDoor
open Go Go.Abs Go.Proofs Go.RowKit
theorem Qiv{P:Program}{f:FuncId}(hf:QhU P f){k:IntKind}{ok:Int→Prop} [DecidablePred ok]{out:Int→D}{res:Int→Value}
  (hr:∀(bd:Nat→Nat) (w:World) n,ok n→DR bd w (out n) (res n))
  (h:∀(w:World) (n:Int),ok n→Calls P f #[.int k n] w fun e w'=>e= .returned (res n)∧w'=w):
  FSound P f fun _ args H=>match args with
   | [.d (.int k' n)]=>if k'=k∧ok n then some (.d (out n),H)else none
   |_=>none:=by
 intro lim args H a H' hF hlim
 simp only at hF
 split at hF
 ·rename_i k' n
  split at hF
  ·rename_i hok
   obtain⟨rfl,hok⟩:=hok
   simp only[Option.some.injEq,Prod.mk.injEq]at hF
   obtain⟨rfl,rfl⟩:=hF
   refine⟨Ext.refl _ _,fun vals g w hH hn hl hv=> .inl ⟨hf, ?_⟩⟩
   obtain⟨vl⟩:=vals
   match vl,hl with
   | [u],_=>
     have h0:=(hv 0 _ u rfl (by simp)).1
     cases h0 with
     |d _ _ h0=>cases h0 with
      |int=>
       refine Calls.mono (h w n hok) ?_
       rintro e w' ⟨rfl,rfl⟩
       exact⟨_,g,rfl,.refl _ _,hH,.d _ _ (hr _ _ n hok),fun xs e=>by cases e⟩
  ·cases hF
 ·cases hF
def ren91:Go.Shelf.Ren:=⟨fun f=>(([(129,219)]:List (Nat×Nat)).lookup f).getD f,fun t=>(([(53,175),(3,3),(4,4),(46,113),(5,5),(9,9)]:List (Nat×Nat)).lookup t).getD t,fun g=>g⟩
theorem lays91:Lays.n129 Tryz.prog ren91:=by
 constructor<;>first|kernel_rfl|exact fun w=>by kernel_rfl
def ren92:Go.Shelf.Ren:=⟨fun f=>(([(283,220)]:List (Nat×Nat)).lookup f).getD f,fun t=>(([(3,3),(9,9),(4,4)]:List (Nat×Nat)).lookup t).getD t,fun g=>g⟩
theorem lays92:Lays.n283 Tryz.prog ren92:=by
 constructor<;>first|kernel_rfl|exact fun w=>by kernel_rfl
def ren94:Go.Shelf.Ren:=⟨fun f=>(([(285,222)]:List (Nat×Nat)).lookup f).getD f,fun t=>(([(37,36),(53,175),(3,3),(4,4),(51,205),(9,9),(5,5),(0,0)]:List (Nat×Nat)).lookup t).getD t,fun g=>g⟩
theorem lays94:Lays.n285 Tryz.prog ren94:=by
 constructor<;>first|kernel_rfl|exact fun w=>by kernel_rfl
theorem small_eq{n:Nat}(h:n<100):Qj8 n=Lib.decDigits n:=by
 unfold Qj8
 split
 ·rename_i h1;rw[Lib.decDigits_one h1]
 ·rename_i h1;rw[Lib.decDigits_two h1 h]
theorem fn91:QhU Tryz.prog 219:=⟨_,Tryz.func219,by kernel_rfl,by kernel_rfl⟩
theorem fn92:QhU Tryz.prog 220:=⟨_,Tryz.func220,by kernel_rfl,by kernel_rfl⟩
theorem fn94:QhU Tryz.prog 222:=⟨_,Tryz.func222,by kernel_rfl,by kernel_rfl⟩
theorem Qjh:FSound Tryz.prog 220 Qj9:=by
 have:=Qiv (k:= .i64) fn92 (ok:=fun i=>0≤i∧i<100) (out:=fun i=> .str (Qj8 i.toNat)) (res:=fun i=> .string ⟨(Lib.decDigits i.toNat).toArray⟩)
  (fun bd w n hn=> .str _ _ (by rw[small_eq (by omega)])) fun w n hn=>by
    obtain⟨m,rfl⟩:∃m:Nat,n=(m:Int):=⟨n.toNat,by omega⟩
    exact Any.internal_strconv_small lays92 m (by omega) w
 refine this.less fun lim a H r hr=> ?_
 unfold Qj9 at hr
 split at hr
 ·simp only[true_and];exact hr
 ·cases hr
theorem QjA:FSound Tryz.prog 219 Qkw:=by
 have:=Qiv (k:= .u64) fn91 (ok:=fun i=>0≤i∧i<18446744073709551616) (out:=fun u=> .int .i64 (Lib.bitLen u.toNat:Nat)) (res:=fun u=> .int .i64 (Lib.bitLen u.toNat:Nat))
  (fun bd w n hn=> .int _ _) fun w n hn=>Any.bits_Len64 lays91 n w hn.1 (by omega)
 refine this.less fun lim a H r hr=> ?_
 unfold Qkw at hr
 split at hr
 ·simp only[true_and];exact hr
 ·cases hr
theorem fbF_inv{lim:Nat}{args:List AV}{H H':Qab}{a:AV}(h:fbF lim args H=some (a,H')):
  ∃r c u cs,args= [.oslice r 0 (Lib.nDigits u) c 1,.d (.int .u64 (u:Nat))]∧H[r]? =some (.cells cs)∧lim≤r∧u<18446744073709551616∧Lib.nDigits u≤24∧Lib.nDigits u≤cs.length∧cs.take (Lib.nDigits u)=List.replicate (Lib.nDigits u) (.d (.int .u8 0))∧a= .tuple []∧
   H'=H.set r (.cells (splice cs 0 ((Lib.decDigits u).map fun b=>AV.d (Qai b)))):=by
 unfold fbF at h
 split at h
 ·rename_i r n c u
  split at h
  ·rename_i cs h1
   split at h
   ·rename_i hc
    obtain⟨c1,c2,c3,c4,c24,c5,c6⟩:=hc
    simp only[Option.some.injEq,Prod.mk.injEq]at h
    obtain⟨rfl,rfl⟩:=h
    obtain⟨m,rfl⟩:∃m:Nat,u=(m:Int):=⟨u.toNat,by omega⟩
    simp only[Int.toNat_natCast]at c4
    subst c4
    exact⟨r,c,m,cs,rfl,h1,c1,by omega,c24,c5,AV.beqs_eq c6,rfl,rfl⟩
   ·cases h
  ·cases h
 ·cases h
abbrev encB(b:UInt8):Value:= .int .u8 (b.toNat:Int)
theorem fb_calls{g:Gh}{w:World}{H:Qab}(hH:HeapOK g H w){r c u:Nat}{cs:List AV}(gr:H[r]? =some (.cells cs))(hu:u<18446744073709551616)(hn24:Lib.nDigits u≤24)(hn:Lib.nDigits u≤cs.length)
  (hz:cs.take (Lib.nDigits u)=List.replicate (Lib.nDigits u) (.d (.int .u8 0))){vals:Array Value}(hv0:2=vals.size)
  (hv:∀(i:Nat) x v,[AV.oslice r 0 (Lib.nDigits u) c 1,.d (.int .u64 (u:Nat))][i]? =some x→vals[i]? =some v→VR g w x v∧FOK g w (.slot i) x v):
  Calls Tryz.prog 222 vals w fun e w'=>∃v g',e= .returned v∧WF g w g' w'∧HeapOK g' (H.set r (.cells (splice cs 0 ((Lib.decDigits u).map fun b=>AV.d (Qai b))))) w'∧VR g' w' (.tuple []) v∧FOK g' w' .res (.tuple []) v:=by
 obtain⟨v0,v1,rfl⟩:∃v0 v1,vals= #[v0,v1]:=⟨vals[0],vals[1],by
  apply Array.ext
  ·simpa using hv0.symm
  ·intro i h1 h2
   simp at h2
   rcases(by omega:i=0∨i=1)with rfl|rfl<;>rfl⟩
 have hv1:=(hv 0 _ v0 rfl rfl).1
 have hv2:=(hv 1 _ v1 rfl rfl).1
 obtain⟨hrn,vs,e,fr,h1,⟨h2a,h2b⟩,h3,h4,h5⟩:=hH.get gr
 have har:=Qck gr (by simp)
 generalize hN:Lib.nDigits u=N at*
 cases hv1 with
 |osl _ _ _ _ cap' _ q1 q2 q3 q4=>
 cases hv2 with
 |d _ _ hv2=>
 cases hv2 with
 |int=>
 let d:Array UInt8:=Array.replicate N 0
 have hds:d.size=N:=by simp[d]
 have hHd:Go.Sort.Holds encB w (g.rho r) 0 d:=fun j hj=>by
  rw[hds]at hj
  have hjs:j<vs.size:=by omega
  refine⟨?_, ?_⟩
  ·rw[Nat.zero_add,Qax h1,Array.getElem?_eq_getElem hjs]
   have hcj:cs[j]? =some (.d (.int .u8 0)):=by
    have:=congrArg (fun l=>l[j]?) hz
    simp only[List.getElem?_take,if_pos hj,List.getElem?_replicate]at this
    exact this
   have:=(h5 j _ vs[j] hcj (Array.getElem?_eq_getElem hjs)).1
   generalize vs[j]=vj at this
   cases this with
   |d _ _ h=>
    cases h
    rw[getElem!_pos d j (by omega)]
    simp[d,encB]
  ·rw[Nat.zero_add];exact Qbe h1 h3 hjs
 have hS:=Any.internal_strconv_formatBase10 lays94 (g.rho r) 0 cap' u d w hHd (by rw[hds,←hN];exact Lib.lt_pow_nDigits u) hu (by omega)
 rw[hds]at hS
 refine Calls.mono hS ?_
 rintro _ _ ⟨rfl,q,v',dk,rfl,hfi⟩
 have hfs:dk.size=N:=hfi.size
 have hdk:dk=(Lib.decDigits u).toArray:=by
  apply Array.ext
  ·rw[hfs,List.size_toArray,Lib.decDigits_length,hN]
  ·intro i a b
   rw[←hN]at hfi
   have:=Lib.row_is_numeral hfi i (by simpa using b)
   rw[getElem!_pos dk i a]at this
   exact this.symm
 subst hdk
 rw[show(Go.Sort.putRow encB w (g.rho r) 0 (Lib.decDigits u).toArray).drewN q=(w.drewN q).setCells (g.rho r) 0 ((Lib.decDigits u).map encB)from Lib.putRow_eq_setCells encB w (g.rho r) 0 d (Lib.decDigits u) q hHd (by rw[hds,←hN,Lib.decDigits_length])]
 have f1:Frn g w (w.drewN q):=⟨rfl,rfl,rfl,Nat.le_refl _,fun _ _ _=>rfl⟩
 have hH1:=f1.heap hH
 have hw1:WF g w g (w.drewN q):=f1.wf hH (.refl _ _) fun _ _=>rfl
 obtain⟨ht,hor,_⟩:=QcR (P:=Tryz.prog) hH1 (r:=r) (us:=(Lib.decDigits u).map encB) (ds:=(Lib.decDigits u).map fun b=>AV.d (Qai b)) (off:=0) gr (by rw[List.length_map,Lib.decDigits_length];omega) (by simp) (fun c hc=>by
  obtain⟨i,_,rfl⟩:=List.mem_map.1 hc;rfl) (fun i c v hc hv=>by
  simp only[List.getElem?_map,Option.map_eq_some_iff]at hc hv
  obtain⟨a,ha,rfl⟩:=hc
  obtain⟨b,hb,rfl⟩:=hv
  rw[ha]at hb;cases hb
  exact⟨.d _ _ (.int _ _),FOK.triv (Triv.d _ _)⟩)
 have hH2:=Qcf hH1 hrn har ht hor
 have hw2:=Qbb hH1 hrn har ht
 exact⟨_,g,rfl,hw1.trans hw2,hH2,.tuple [] #[] rfl (fun i c v h=>by simp at h) (fun i c v h=>by simp at h),FOK.ne (by simp)⟩
theorem fb_sound:FSound Tryz.prog 222 fbF:=by
 intro lim args H a H' h hlim
 obtain⟨r,c,u,cs,rfl,gr,hl,hu,hn24,hn,hz,rfl,rfl⟩:=fbF_inv h
 exact⟨Ext.set _ hl,fun vals g w hH hn' hv0 hv=> .inl ⟨fn94,fb_calls hH gr hu hn24 hn hz hv0 hv⟩⟩
end Go.Proofs.YtfoiaojdnmpgmaaGreatDoor
namespace Go.Proofs.YtfoiaojdnmpgmaaGreatDoor
open Go Go.Abs Go.Lib
def ren2:Go.Shelf.Ren:=⟨fun f=>if f=196 then 105 else if f=259 then 149 else f,fun t=>if t=119 then 153 else if t=46 then 113 else if t=139 then 156 else if t=138 then 155 else if t=53 then 175 else t,fun g=>g-3⟩
theorem QmX:Go.Proofs.Lays.n196 Tryz.prog ren2:=by
 constructor<;>first|kernel_rfl|exact fun w=>by kernel_rfl
theorem int_of{bd:Nat→Nat}{w:World}{k:IntKind}{n:Int}{v:Value}(h:DR bd w (.int k n) v):v= .int k n:=by cases h;rfl
theorem QfJ{g:Gh}{w:World}{cs:List D}{b:Nat}(h:VR g w (.pref cs) (.pointer (some ⟨b,0,none⟩))){i:Nat}{k:IntKind}{n:Int}(hi:cs[i]? =some (.int k n)):w.cell? ⟨b,i,none⟩=some (.int k n):=by
 cases h with
 |pref _ _ _ vs hf hc hd=>
  have h1:=(hc i (List.getElem?_eq_some_iff.1 hi).1).2
  rw[Nat.zero_add]at h1
  have:=int_of (hd i _ hi)
  rw[this]at h1
  exact h1
theorem QeT{g:Gh}{H:Qab}{w:World}(h:HeapOK g H w):Lib.Utf8Tabs 0 1 w:=by
 have g0:=h.glob 0 tab0 rfl
 have g1:=h.glob 1 tab1 rfl
 exact⟨fun k hk=>QfJ g0 (QlZ hk),fun k hk=>⟨QfJ g1 (Qhn k hk).1,QfJ g1 (Qhn k hk).2⟩⟩
theorem Qi8:FSound Tryz.prog 105 QlQ:=by
 refine Go.Abs.text_sound Tryz.func105 (by kernel_rfl) (by kernel_rfl) (ok:=fun s=>s.length≤9223372036854775807) (out:=fun s=> .bool (Lib.validD s)) (res:=fun s=> .bool (Lib.validD s.data.toList)) (fun bd w s=> .bool _) fun g H w hH s hs=> ?_
 exact Any.utf8_ValidString QmX s w (by simpa using hs) (QeT hH)
def ren3:Go.Shelf.Ren:=⟨fun f=>if f=197 then 161 else if f=260 then 188 else f,fun t=>if t=105 then 163 else if t=119 then 153 else if t=46 then 113 else if t=139 then 156 else if t=138 then 155 else t,fun g=>g-3⟩
theorem laysDec:Go.Proofs.Lays.n197 Tryz.prog ren3:=by
 constructor<;>first|kernel_rfl|exact fun w=>by kernel_rfl
theorem Qni:FSound Tryz.prog 161 decF:=by
 have h:=Qjc (P:=Tryz.prog) Tryz.func161 (by kernel_rfl) (by kernel_rfl) (ok:=fun _=>True) (out:=fun s=> .int .i32 ((dg s).1:Nat)) (out2:=fun s=> .int .i64 ((dg s).2:Nat)) (res:=fun s=> .int .i32 ((dg s.data.toList).1:Nat)) (res2:=fun s=> .int .i64 ((dg s.data.toList).2:Nat)) (fun bd w s=> .int _ _) (fun bd w s=> .int _ _) fun g H w hH s _=>by
  have e:dg s.data.toList=decodeGo s:=by
   obtain⟨⟨l⟩⟩:=s
   rfl
  rw[e]
  exact Any.utf8_DecodeRuneInString laysDec s w (QeT hH)
 refine h.less fun lim a H r hr=> ?_
 unfold decF at hr
 split at hr
 ·simp only[if_true];exact hr
 ·cases hr
theorem Qm3:FSound Tryz.prog 203 QbI:=QhG Tryz.func203 (by kernel_rfl) (by kernel_rfl) (by kernel_rfl) (by kernel_rfl)
theorem Qie:∀f F,QaA f=some F→FSound Tryz.prog f F:=fun f F h=>by
 unfold QaA at h
 split at h
 ·rename_i hf;subst hf;cases h;exact Qi8
 split at h
 ·rename_i hf;subst hf;cases h;exact Qm3
 split at h
 ·rename_i hf;subst hf;cases h;exact Qni
 split at h
 ·rename_i hf;subst hf;cases h;exact Qk1
 split at h
 ·rename_i hf;subst hf;cases h;exact Qjh
 split at h
 ·rename_i hf;subst hf;cases h;exact QjA
 split at h
 ·rename_i hf;subst hf;cases h;exact fb_sound
 ·cases h
theorem hS1:EnvS Tryz.prog pf X1 XP1:=EnvS.slim Qe9 Qie (fun _ _ h=>by cases h) (fun _ _ h=>by cases h) QeL
theorem Qif:∀f F,QaY f=some F→FSound Tryz.prog f F:=fun f F h=>by
 unfold QaY at h
 split at h
 ·rename_i hf;subst hf;cases h;exact text_sound hS1
 ·exact Qie f F h
theorem Qmn:∀f F,Qc8 f=some F→PSound Tryz.prog f F:=fun f F h=>by
 unfold Qc8 at h
 split at h
 ·rename_i hf;subst hf;cases h;exact Qja hS1
 ·cases h
theorem hS0:EnvS Tryz.prog pf X0 XP:=EnvS.slim Qe9 Qif Qmn QgN QeL
end Go.Proofs.YtfoiaojdnmpgmaaGreatDoor
namespace Go.Proofs.YtfoiaojdnmpgmaaGreatDoor
open Go Go.Abs
variable {pr:FuncId→Option Qba} {pP:FuncId→Option Qeh} [POK pr] [PPOK pr pP]
theorem dg_drop{s:Tx}{p:Nat}(h:p<s.length):dg (s.drop p)=dec s p:=by
 unfold dg
 rw[if_neg (by rw[List.length_drop];omega),Qnl,Qnl,List.drop_zero]
theorem dec_ev(lim:Nat)(H:Qab)(t:Tx):Ev (QaE code pr) 161 lim [.d (.str t)] H (.tuple [.d (.int .i32 ((dg t).1:Nat)),intD ((dg t).2:Nat)]) H:=QeQ (F:=decF) POK.dec rfl
theorem Qnr(lim:Nat)(H:Qab)(s:Tx)(hs:s.length≤1000000000):Ev (QaE code pr) 115 lim [.d (.str s)] H (intD (QaV s)) H:=by
 refine Fn.ev ?_
 refine QbU (pn rfl) rfl (show code 115=some c115 from rfl) rfl ?_;simp only[List.length_cons,List.length_nil,List.cons_append,List.nil_append,simprocAttr]
 (iterate 6 refine w_s trivial ?_)
 refine W_lp (fun m st=>∃p f,p≤s.length∧m=s.length-p∧s.length-p<f∧QaV s=QeN s f p∧∃x:Nat→AV,st=⟨[.d (.str s),x 1,x 2,x 3,x 4,.ptr H.length 0,x 6,x 7,x 8,x 9,x 10,x 11],H++ [.siter s p]⟩) ?_ _ _ ⟨0,s.length+1,Nat.zero_le _,rfl,by omega,rfl,QaC _ _ _ rfl⟩
 rintro m _ ⟨p,f,hp,rfl,hf,hb,x,rfl⟩
 obtain⟨f,rfl⟩:∃k,f=k+1:=⟨f-1,by omega⟩
 unfold QeN at hb
 by_cases h0:p<s.length
 ·rw[if_pos h0]at hb
  have hd:=dg_drop h0
  have hdc:=Qnl s p
  have hpos:1≤(dec s p).2:=by rw[hdc];exact dc_pos _
  have hle:(dec s p).2≤s.length-p:=by
   rw[hdc]
   have:=dc_le (s:=s.drop p) (by intro e;have:=congrArg List.length e;rw[List.length_drop]at this;simp at this;omega)
   rwa [List.length_drop]at this
  have s1:((p:Int)≤(s.length:Int))=True:=eq_true (by omega)
  have s2:s.take s.length=s:=List.take_length
  have s3:((0:Int)≤(p:Int))=True:=eq_true (by omega)
  generalize hD:dec s p=D at*
  obtain⟨c,n⟩:=D
  have he:Ev (QaE code pr) 161 H.length [.d (.str (s.drop p))] (H++ [.siter s (p+n)]) (.tuple [.d (.int .i32 (c:Nat)),intD (n:Nat)]) (H++ [.siter s (p+n)]):=by
   have:=dec_ev (pr:=pr) H.length (H++ [.siter s (p+n)]) (s.drop p)
   rwa [hd]at this
  have next:∀ {st:St},QaV s=QeN s f (p+n)→(∃x:Nat→AV,st=⟨[.d (.str s),x 1,x 2,x 3,x 4,.ptr H.length 0,x 6,x 7,x 8,x 9,x 10,x 11],H++ [.siter s (p+n)]⟩)→
    ∃m,m<s.length-p∧∃p f,p≤s.length∧m=s.length-p∧s.length-p<f∧QaV s=QeN s f p∧∃x:Nat→AV,st=⟨[.d (.str s),x 1,x 2,x 3,x 4,.ptr H.length 0,x 6,x 7,x 8,x 9,x 10,x 11],H++ [.siter s p]⟩:=
   fun h1 h2=>⟨s.length-(p+n),by simp only at hpos hle;omega,p+n,f,by simp only at hpos hle;omega,rfl,by simp only at hpos hle;omega,h1,h2⟩
  simp only at hpos hle
  by_cases h1:c=65533
  ·subst h1
   have c1:(((65533:Nat):Int)==65533)=true:=rfl
   by_cases h2:n=1
   ·subst h2
    rw[if_pos rfl]at hb
    have c2:(((1:Nat):Int)==1)=true:=rfl
    refine w_r (j_ h0 (j_ hD c1)) ?_
    refine w_1 he (j_ s1 (j_ s2 s3)) ?_
    refine w_r c2 ?_
    exact Qah rfl rfl ⟨by rw[hb],rfl⟩
   ·rw[if_neg (by simpa using h2)]at hb
    have c2:((n:Int)==1)=false:=by simp;omega
    refine w_r (j_ h0 (j_ hD c1)) ?_
    refine w_1 he (j_ s1 (j_ s2 s3)) ?_
    refine w_r c2 ?_
    exact next hb (QaC _ _ _ rfl)
  ·rw[if_neg (by simp[h1])]at hb
   have c1:((c:Int)==65533)=false:=by simp;omega
   refine w_r (j_ h0 (j_ hD c1)) ?_
   exact next hb (QaC _ _ _ rfl)
 ·rw[if_neg h0]at hb
  refine w_r h0 ?_
  exact Qah rfl rfl ⟨by rw[hb],rfl⟩
end Go.Proofs.YtfoiaojdnmpgmaaGreatDoor
namespace Go.Proofs.YtfoiaojdnmpgmaaGreatDoor
open Go Go.Abs
variable {pr:FuncId→Option Qba} {pP:FuncId→Option Qeh} [POK pr] [PPOK pr pP]
theorem QgG:∀ks:List Tx,Qc0 (ks.map D.str)=some ks
 | []=>rfl
 |k::ks=>by
  show(Qc0 (ks.map D.str)).map (fun r=>k::r)=_
  rw[QgG ks];rfl
def Qhq(n i:Nat):List AV:=(List.range n).map fun j=>if j<i then intD (j:Nat)else intD 0
theorem Qkd(n i:Nat):(Qhq n i).length=n:=by simp[Qhq]
theorem Ql6(n:Nat):(List.replicate n [intD 0]).flatten=Qhq n 0:=by
 apply List.ext_getElem
 ·simp[Qhq,List.length_flatten]
 ·intro i h1 h2
  simp[Qhq]
theorem rowI_all(n:Nat):Qhq n n=(List.range n).map fun(j:Nat)=>intD (j:Int):=by
 unfold Qhq
 apply List.map_congr_left
 intro j hj
 rw[if_pos (List.mem_range.1 hj)]
theorem rowI_set{n i:Nat}(h:i<n):splice (Qhq n i) i [intD (i:Nat)]=Qhq n (i+1):=by
 unfold splice
 apply List.ext_getElem?
 intro j
 have hl:((Qhq n i).take i).length=i:=by simp[Qhq];omega
 by_cases h1:j<i
 ·rw[List.getElem?_append_left (by omega),List.getElem?_take,if_pos h1]
  simp only[Qhq,List.getElem?_map]
  rw[List.getElem?_range (by omega)]
  simp[h1,show j<i+1 by omega]
 ·rw[List.getElem?_append_right (by omega),hl]
  by_cases h2:j=i
  ·subst h2
   simp[Qhq,h]
  ·rw[List.getElem?_append_right (by simp;omega),List.getElem?_drop,show i+ [intD (i:Nat)].length+(j-i- [intD (i:Nat)].length)=j by simp;omega]
   simp only[Qhq,List.getElem?_map]
   by_cases h3:j<n
   ·rw[List.getElem?_range h3]
    simp[h1,show ¬j<i+1 by omega]
   ·rw[List.getElem?_eq_none (by simp;omega)];rfl
theorem Qgm:∀(l:List Nat) (R:List AV),chunks 1 false l.length (l.map (fun(i:Nat)=>intD (i:Int))++R)=some (l.map fun(i:Nat)=>D.int .i64 (i:Int))
 | [],_=>rfl
 |a::l,R=>by
  have:=Qgm l R
  simp only[List.map_cons,List.cons_append,List.length_cons,chunks,List.take_succ_cons,List.take_zero,AV.toDs,AV.toD,List.drop_succ_cons,List.drop_zero,this]
  rfl
theorem Qmq(lim:Nat)(H:Qab)(ks:List Tx)(hk:ks.length<1000000000000)(hd:ks.Nodup):Ev (QaE code pr) 144 lim [.d (sD ks)] H (.d (.slice ((Qbi ks).map fun(i:Nat)=>D.int .i64 (i:Int)))) H:=by
 refine Fn.ev ?_
 refine QbU (pn rfl) rfl (show code 144=some c144 from rfl) rfl ?_;simp only[List.length_cons,List.length_nil,List.cons_append,List.nil_append,simprocAttr]
 have e0:=Ql6 ks.length
 have c1:((ks.length:Int)*8≤281474976710656)=True:=eq_true (by omega)
 have c2:((ks.length:Int)≤281474976710656)=True:=eq_true (by omega)
 have a1:(H++ [AObj.cells [.d (sD ks)]]).length=H.length+1:=by simp
 have a2:∀o,H++ [AObj.cells [.d (sD ks)]]++ [o]=H++ [AObj.cells [.d (sD ks)],o]:=fun o=>by simp
 (iterate 4 refine w_s (j_ (@List.length_map.{0,0}) (j_ e0 (j_ c1 (j_ c2 (j_ a1 a2))))) ?_)
 have g1:∀o:AObj,(H++ [AObj.cells [.d (sD ks)],o])[H.length+1]? =some o:=fun o=>by rw[List.getElem?_append_right (by omega)];simp
 have g0:∀o:AObj,(H++ [AObj.cells [.d (sD ks)],o])[H.length]? =some (.cells [.d (sD ks)]):=fun o=>by rw[List.getElem?_append_right (by omega)];simp
 have s1:∀o o':AObj,(H++ [AObj.cells [.d (sD ks)],o]).set (H.length+1) o'=H++ [AObj.cells [.d (sD ks)],o']:=fun o o'=>by rw[List.set_append_right _ _ (by omega)];simp
 have hll:H.length≤H.length+1:=by omega
 (iterate 4 refine w_s trivial ?_)
 refine W_lp (fun k st=>∃i:Nat,i≤ks.length∧k=ks.length-i∧∃x:Nat→AV,st=⟨[x 0,x 1,x 2,.ptr H.length 0,.oslice (H.length+1) 0 ks.length ks.length 1,intD ks.length,intD i,x 7,x 8,x 9],H++ [AObj.cells [.d (sD ks)],.cells (Qhq ks.length i)]⟩) ?_ _ _ ⟨0,Nat.zero_le _,rfl,QaC _ _ _ rfl⟩
 rintro k _ ⟨i,hi,rfl,x,rfl⟩
 by_cases t0:i<ks.length
 ·have f1:((i:Int)<(ks.length:Int))=True:=eq_true (by omega)
  have w1:IntKind.i64.wrap ((i:Int)+1)=((i+1:Nat):Int):=QkS (by omega)
  have hs:=rowI_set t0
  have hl:=Qkd ks.length i
  have hl2:i+1≤ks.length:=t0
  simp only[splice,List.length_cons,List.length_nil,Nat.zero_add,List.cons_append,List.nil_append]at hs
  generalize Qhq ks.length i=R at*
  refine w_r (j_ f1 (j_ g1 (j_ s1 (j_ w1 (j_ hs (j_ hl (j_ hl2 (j_ hll @Nat.mul_one)))))))) ?_
  exact⟨ks.length-(i+1),by omega,i+1,t0,rfl,QaC _ _ _ rfl⟩
 ·obtain rfl:i=ks.length:=by omega
  have f1:((ks.length:Int)<(ks.length:Int))=False:=eq_false (by omega)
  have es:Ev (QaE code pr) 181 H.length [.oslice (H.length+1) 0 ks.length ks.length 1,.func (.func 182) [.ptr H.length 0]] (H++ [AObj.cells [.d (sD ks)],.cells (Qhq ks.length ks.length)]) (.tuple []) (H++ [AObj.cells [.d (sD ks)],.cells ((Qbi ks).map fun(i:Nat)=>intD (i:Int))]):=by
   refine QeQ (F:=Qjg) POK.sort ?_
   have hc:H.length≤H.length+1∧H.length+1≠H.length∧True∧ks.length<1000000000000∧ks.Nodup∧(Qhq ks.length ks.length).length=ks.length∧AObj.beq (.cells (Qhq ks.length ks.length)) (.cells ((List.range ks.length).map fun(i:Nat)=>intD (i:Int)))=true:=by
    refine⟨hll,by omega,trivial,hk,hd,Qkd _ _, ?_⟩
    rw[rowI_all];exact AV.beqs_self _
   simp only[Qjg,g1,g0,QgG,if_pos hc,s1]
  have ch:=Qgm (Qbi ks) []
  rw[List.append_nil,QcU]at ch
  refine w_r f1 ?_
  refine w_1 es trivial ?_
  refine w_r trivial ?_
  refine Qah (vs:= [.oslice (H.length+1) 0 ks.length ks.length 1]) rfl ?_ ⟨rfl,rfl⟩
  have hc2:H.length≤H.length+1∧0<1:=⟨hll,by omega⟩
  simp only[QbD,Go.Abs.freeze,if_pos hc2,g1,List.drop_zero]
  rw[if_pos (by simp[QcU]),show(1 !=1)=false from rfl,ch]
  rfl
end Go.Proofs.YtfoiaojdnmpgmaaGreatDoor
namespace Go.Proofs.YtfoiaojdnmpgmaaGreatDoor
open Go Go.Abs
theorem Qhz{H:Qab}{r:Nat}{o:AObj}(gr:H[r]? =some o)(B:AObj):∃KK:AObj→AObj→Qab,(∀x y,KK x y=H.set r x++ [y])∧KK o B=H++ [B]∧(∀x y,(KK x y)[r]? =some x)∧(∀x y,(KK x y)[H.length]? =some y)∧
  (∀x x' y,(KK x y).set r x'=KK x' y)∧(∀x y y',(KK x y).set H.length y'=KK x y')∧r≤H.length:=by
 obtain⟨hr,e⟩:=List.getElem?_eq_some_iff.1 gr
 refine⟨fun x y=>H.set r x++ [y],fun _ _=>rfl, ?_,fun x y=> ?_,fun x y=> ?_,fun x x' y=> ?_,fun x y y'=> ?_, ?_⟩
 ·simp only;rw[←e,List.set_getElem_self hr]
 ·simp only;rw[List.getElem?_append_left (by simpa using hr)];simp[hr]
 ·simp only;rw[List.getElem?_append_right (by simp)];simp
 ·simp only;rw[List.set_append_left _ _ (by simpa using hr),List.set_set]
 ·simp only;rw[List.set_append_right _ _ (by simp)];simp
 ·exact Nat.le_of_lt hr
def QcY(s:Tx)(p:Nat):Nat:=if nx s p=45 then p+1 else p
theorem nx_lt{s:Tx}{p:Nat}(h:nx s p≠0):p<s.length:=by
 rcases Nat.lt_or_ge p s.length with h1|h1
 ·exact h1
 ·exact absurd (nx_end h1) h
theorem QmN(s:Tx)(p:Nat):QcS s p=if Qce (nx s (QcY s p))then match QbA s (QcY s p) (s.length+1) 0 (QcY s p)with
  |.error e=> .error e
  |.ok (n,q)=>if 9007199254740991<n∨nx s q=46∨nx s q=101∨nx s q=69 then .error (15,p)
   else .ok (.mk 2 (if p<QcY s p then-(n:Int)else n) [] [] [],q)
 else .error (11,QcY s p):=rfl
abbrev zC:AObj:= .cells [intD 0,intD 0,.d (.str []),.fslice [],.fslice []]
theorem QmM(lim:Nat)(H:Qab)(r:Nat)(s:Tx)(p:Nat)(gr:H[r]? =some (rdO s p))(hl:lim≤r)(hs:s.length≤16384)(hp:p≤s.length):
  Fv X0 XP 169 lim [.ptr r 0] H (fun v H'=>∃j q,QcS s p= .ok (j,q)∧v= .d j.d∧H'=H.set r (rdO s q)) (fun z=>∃e,QcS s p= .error e∧z=Qc1 e.1 e.2):=by
 refine QkR (pn rfl) rfl (by first|exact rfl|exact pnP (pr:=QaY) rfl) rfl (show code 169=some c169 from rfl) rfl ?_;simp only[List.length_cons,List.length_nil,List.cons_append,List.nil_append,simprocAttr]
 obtain⟨KK,kk0,kk1,kk2,kk3,kk4,kk5,hrl⟩:=Qhz gr zC
 have hll:=Nat.le_trans hl hrl
 (iterate 2 refine v_s trivial ?_)
 rw[←kk1]
 (iterate 2 refine v_s kk2 ?_)
 refine V_mid (fun st=>∃x:Nat→AV,st=⟨[.ptr r 0,x 1,x 2,x 3,x 4,x 5,x 6,x 7,.ptr H.length 0,intD p,x 10,x 11,x 12,x 13,x 14,x 15],KK (rdO s (QcY s p)) zC⟩) ?_ ?_
 ·have wp:IntKind.i64.wrap ((p:Int)+1)=((p+1:Nat):Int):=Qi5 (by omega)
  by_cases h:nx s p=45
  ·have hf:QcY s p=p+1:=if_pos h
   have c1:(((nx s p).toNat:Int)==45)=true:=QkU h rfl
   rw[hf]
   refine v_r trivial ?_
   (apply QaP;focus(refine Evl.call (X:=X0) (Qa8 lim (KK (rdO s p) zC) r s p (kk2 _ _) hp) (Evl.all fun k e1=> ?_);simp(maxSteps:=100000000) only[zz,zd,simprocAttr,c1,e1];(first|done|with_reducible exact rfl)))<;>(try simp only[zp,simprocAttr])
   refine v_r (j_ kk2 (j_ kk4 (j_ wp hl))) ?_
   exact QaC _ _ _ rfl
  ·have hf:QcY s p=p:=if_neg h
   have c1:(((nx s p).toNat:Int)==45)=false:=Qi9 h rfl
   rw[hf]
   refine v_r trivial ?_
   (apply QaP;focus(refine Evl.call (X:=X0) (Qa8 lim (KK (rdO s p) zC) r s p (kk2 _ _) hp) (Evl.all fun k e1=> ?_);simp(maxSteps:=100000000) only[zz,zd,simprocAttr,c1,e1];(first|done|with_reducible exact rfl)))<;>(try simp only[zp,simprocAttr])
   refine v_r trivial ?_
   exact QaC _ _ _ rfl
 rintro _ ⟨x,rfl⟩
 have hfl:QcY s p≤s.length∧p≤QcY s p:=by
  unfold QcY
  split
  ·rename_i h;have:=nx_lt (s:=s) (p:=p) (by rw[h];decide);omega
  ·omega
 rw[QmN]
 generalize hf:QcY s p=f at hfl⊢
 cases hd:Qce (nx s f)with
 |false=>
  refine v_r kk2 ?_
  (apply QaP;focus(refine Evl.call (X:=X0) (Qa8 lim (KK (rdO s f) zC) r s f (kk2 _ _) hfl.1) (Evl.call (X:=X0) (Qdy lim (KK (rdO s f) zC) (nx s f)) (Evl.all fun k e2 e1=> ?_));simp(maxSteps:=100000000) only[zz,zd,simprocAttr,hd,e2,e1];(first|done|with_reducible exact rfl)))<;>(try simp only[zp,simprocAttr])
  refine v_r trivial ?_
  refine Qam ?_;apply Qa9 3;(focus(intro _;simp only[zz,simprocAttr,kk2];(first|done|with_reducible exact rfl)));simp only[List.drop_succ_cons,List.drop_zero];refine Qay rfl ?_;simp only[zz,simprocAttr]
  exact EvP.fv (QaW _ _ r 11 f) ⟨_,rfl,rfl⟩
 |true=>
  refine v_r kk2 ?_
  (apply QaP;focus(refine Evl.call (X:=X0) (Qa8 lim (KK (rdO s f) zC) r s f (kk2 _ _) hfl.1) (Evl.call (X:=X0) (Qdy lim (KK (rdO s f) zC) (nx s f)) (Evl.all fun k e2 e1=> ?_));simp(maxSteps:=100000000) only[zz,zd,simprocAttr,hd,e2,e1];(first|done|with_reducible exact rfl)))<;>(try simp only[zp,simprocAttr])
  refine v_r trivial ?_
  refine V_lp (fun m st=>∃n q,f≤q∧q≤s.length∧m=s.length-q∧n≤90071992547409919∧QbA s f (s.length+1) 0 f=QbA s f (s.length+1-(q-f)) n q∧∃x:Nat→AV,st=⟨[.ptr r 0,x 1,x 2,x 3,x 4,x 5,x 6,x 7,.ptr H.length 0,intD p,intD f,intD n,x 12,x 13,x 14,x 15],KK (rdO s q) zC⟩) ?_ _ _ ⟨0,f,Nat.le_refl _,hfl.1,rfl,by omega,by rw[Nat.sub_self];rfl,QaC _ _ _ rfl⟩
  rintro m _ ⟨n,q,hq1,hq2,rfl,hn,hdg,x,rfl⟩
  cases hd2:Qce (nx s q)with
  |true=>
   have hql:q<s.length:=nx_lt fun h=>by rw[h]at hd2;cases hd2
   have hstep:QbA s f (s.length+1-(q-f)) n q=if q=f+1∧nx s f=48 then .error (11,q)else QbA s f (s.length+1-(q+1-f)) (if n≤9007199254740991 then 10*n+((nx s q).toNat-48)else n) (q+1):=by
    rw[show s.length+1-(q-f)=(s.length+1-(q+1-f))+1 by omega]
    conv=>lhs;unfold QbA
    rw[hd2,if_pos rfl]
   refine v_r trivial ?_
   (apply QaP;focus(refine Evl.call (X:=X0) (Qa8 lim (KK (rdO s q) zC) r s q (kk2 _ _) hq2) (Evl.call (X:=X0) (Qdy lim (KK (rdO s q) zC) (nx s q)) (Evl.all fun k e2 e1=> ?_));simp(maxSteps:=100000000) only[zz,zd,simprocAttr,hd2,e2,e1];(first|done|with_reducible exact rfl)))<;>(try simp only[zp,simprocAttr])
   have hdd:=hd2
   rw[dig_eq,Bool.and_eq_true,decide_eq_true_eq,decide_eq_true_eq]at hdd
   have wf:IntKind.i64.wrap ((f:Int)+1)=((f+1:Nat):Int):=Qi5 (by omega)
   have wq:IntKind.i64.wrap ((q:Int)+1)=((q+1:Nat):Int):=Qi5 (by omega)
   have hfa:=QcD (s:=s) (p:=f) (by omega)
   have gq:=kk2 (rdO s q) zC
   by_cases z1:q=f+1∧nx s f=48
   ·have c1:decide (q=f+1)=true:=decide_eq_true z1.1
    have c2:(((nx s f).toNat:Int)==48)=true:=QkU z1.2 rfl
    rw[if_pos z1]at hstep
    (repeat((first|refine QhT ?_|refine QjY ?_|refine QdO ?_|refine Qcm ?_|refine Qcl ?_|(apply Qhg;focus(intro _;simp only[zz,simprocAttr,gq,wf,Qhv,c1,c2,hfa,Qdl];(first|done|with_reducible exact rfl)))|(refine QjW ?_ ?_;focus(simp only[zp,simprocAttr];done))|(refine QjX ?_ ?_;focus(simp only[zp,simprocAttr];done)))<;>(try simp only[zp,simprocAttr])))
    refine Qam ?_;apply Qa9 3;(focus(intro _;simp only[zz,simprocAttr,gq];(first|done|with_reducible exact rfl)));simp only[List.drop_succ_cons,List.drop_zero];refine Qay rfl ?_;simp only[zz,simprocAttr]
    exact EvP.fv (QaW _ _ r 11 q) ⟨_,by rw[hdg,hstep],rfl⟩
   rw[if_neg z1]at hstep
   have w1:IntKind.u8.wrap (((nx s q).toNat:Int)-48)=(((nx s q).toNat-48:Nat):Int):=by
    rw[←u8w ((nx s q).toNat-48) (by omega)];congr 1;omega
   have w2:IntKind.i64.wrap (((nx s q).toNat-48:Nat):Int)=(((nx s q).toNat-48:Nat):Int):=w64n _ (by omega)
   have next:∀ {st:St} {n':Nat},n'=(if n≤9007199254740991 then 10*n+((nx s q).toNat-48)else n)→(∃x:Nat→AV,st=⟨[.ptr r 0,x 1,x 2,x 3,x 4,x 5,x 6,x 7,.ptr H.length 0,intD p,intD f,intD n',x 12,x 13,x 14,x 15],KK (rdO s (q+1)) zC⟩)→
     ∃m,m<s.length-q∧∃n q,f≤q∧q≤s.length∧m=s.length-q∧n≤90071992547409919∧QbA s f (s.length+1) 0 f=QbA s f (s.length+1-(q-f)) n q∧∃x:Nat→AV,st=⟨[.ptr r 0,x 1,x 2,x 3,x 4,x 5,x 6,x 7,.ptr H.length 0,intD p,intD f,intD n,x 12,x 13,x 14,x 15],KK (rdO s q) zC⟩:=fun hn' hst=>
    ⟨s.length-(q+1),by omega,_,q+1,by omega,by omega,rfl,by rw[hn'];split<;>omega,by rw[hdg,hstep,hn'],hst⟩
   by_cases z2:q=f+1
   ·have z3:nx s f≠48:=fun h=>z1 ⟨z2,h⟩
    have c1:decide (q=f+1)=true:=decide_eq_true z2
    have c2:(((nx s f).toNat:Int)==48)=false:=Qi9 z3 rfl
    by_cases z4:n≤9007199254740991
    ·have c3:decide ((n:Int)≤9007199254740991)=true:=by simp;omega
     have w3:IntKind.i64.wrap (10*(n:Int))=((10*n:Nat):Int):=by rw[w64 (by omega) (by omega)];omega
     have w4:IntKind.i64.wrap (((10*n:Nat):Int)+(((nx s q).toNat-48:Nat):Int))=((10*n+((nx s q).toNat-48):Nat):Int):=by rw[w64 (by omega) (by omega)];omega
     (repeat((first|refine QhT ?_|refine QjY ?_|refine QdO ?_|refine Qcm ?_|refine Qcl ?_|(apply Qhg;focus(intro _;simp only[zz,simprocAttr,gq,wf,Qhv,c1,c2,c3,hfa,Qdl];(first|done|with_reducible exact rfl)))|(refine QjW ?_ ?_;focus(simp only[zp,simprocAttr];done))|(refine QjX ?_ ?_;focus(simp only[zp,simprocAttr];done)))<;>(try simp only[zp,simprocAttr])))
     (apply QaP;focus(refine Evl.call (X:=X0) (Qa8 lim (KK (rdO s q) zC) r s q (kk2 _ _) hq2) (Evl.all fun k e1=> ?_);simp(maxSteps:=100000000) only[zz,zd,simprocAttr,w1,w2,w3,w4,e1];(first|done|with_reducible exact rfl)))<;>(try simp only[zp,simprocAttr])
     refine v_r (j_ gq (j_ wq (j_ kk4 hl))) ?_
     exact next (by rw[if_pos z4]) (QaC _ _ _ rfl)
    ·have c3:decide ((n:Int)≤9007199254740991)=false:=by simp;omega
     (repeat((first|refine QhT ?_|refine QjY ?_|refine QdO ?_|refine Qcm ?_|refine Qcl ?_|(apply Qhg;focus(intro _;simp only[zz,simprocAttr,gq,wf,Qhv,c1,c2,c3,hfa,Qdl,wq,kk4,hl];(first|done|with_reducible exact rfl)))|(refine QjW ?_ ?_;focus(simp only[zp,simprocAttr];done))|(refine QjX ?_ ?_;focus(simp only[zp,simprocAttr];done)))<;>(try simp only[zp,simprocAttr])))
     exact next (by rw[if_neg z4]) (QaC _ _ _ rfl)
   ·have c1:decide (q=f+1)=false:=decide_eq_false z2
    by_cases z4:n≤9007199254740991
    ·have c3:decide ((n:Int)≤9007199254740991)=true:=by simp;omega
     have w3:IntKind.i64.wrap (10*(n:Int))=((10*n:Nat):Int):=by rw[w64 (by omega) (by omega)];omega
     have w4:IntKind.i64.wrap (((10*n:Nat):Int)+(((nx s q).toNat-48:Nat):Int))=((10*n+((nx s q).toNat-48):Nat):Int):=by rw[w64 (by omega) (by omega)];omega
     (repeat((first|refine QhT ?_|refine QjY ?_|refine QdO ?_|refine Qcm ?_|refine Qcl ?_|(apply Qhg;focus(intro _;simp only[zz,simprocAttr,gq,wf,Qhv,c1,c3];(first|done|with_reducible exact rfl)))|(refine QjW ?_ ?_;focus(simp only[zp,simprocAttr];done))|(refine QjX ?_ ?_;focus(simp only[zp,simprocAttr];done)))<;>(try simp only[zp,simprocAttr])))
     (apply QaP;focus(refine Evl.call (X:=X0) (Qa8 lim (KK (rdO s q) zC) r s q (kk2 _ _) hq2) (Evl.all fun k e1=> ?_);simp(maxSteps:=100000000) only[zz,zd,simprocAttr,w1,w2,w3,w4,e1];(first|done|with_reducible exact rfl)))<;>(try simp only[zp,simprocAttr])
     refine v_r (j_ gq (j_ wq (j_ kk4 hl))) ?_
     exact next (by rw[if_pos z4]) (QaC _ _ _ rfl)
    ·have c3:decide ((n:Int)≤9007199254740991)=false:=by simp;omega
     (repeat((first|refine QhT ?_|refine QjY ?_|refine QdO ?_|refine Qcm ?_|refine Qcl ?_|(apply Qhg;focus(intro _;simp only[zz,simprocAttr,gq,wf,Qhv,c1,c3,wq,kk4,hl];(first|done|with_reducible exact rfl)))|(refine QjW ?_ ?_;focus(simp only[zp,simprocAttr];done))|(refine QjX ?_ ?_;focus(simp only[zp,simprocAttr];done)))<;>(try simp only[zp,simprocAttr])))
     exact next (by rw[if_neg z4]) (QaC _ _ _ rfl)
  |false=>
   have hend:QbA s f (s.length+1-(q-f)) n q= .ok (n,q):=by
    rw[show s.length+1-(q-f)=(s.length-(q-f))+1 by omega]
    unfold QbA
    rw[hd2];rfl
   rw[hdg,hend]
   simp only
   have gq:=kk2 (rdO s q) zC
   refine v_r trivial ?_
   (apply QaP;focus(refine Evl.call (X:=X0) (Qa8 lim (KK (rdO s q) zC) r s q (kk2 _ _) hq2) (Evl.call (X:=X0) (Qdy lim (KK (rdO s q) zC) (nx s q)) (Evl.all fun k e2 e1=> ?_));simp(maxSteps:=100000000) only[zz,zd,simprocAttr,hd2,e2,e1];(first|done|with_reducible exact rfl)))<;>(try simp only[zp,simprocAttr])
   refine v_r trivial ?_
   (apply QaP;focus(refine Evl.call (X:=X0) (Qa8 lim (KK (rdO s q) zC) r s q (kk2 _ _) hq2) (Evl.all fun k e1=> ?_);simp(maxSteps:=100000000) only[zz,zd,simprocAttr,e1];(first|done|with_reducible exact rfl)))<;>(try simp only[zp,simprocAttr])
   by_cases b1:9007199254740991<n
   ·have c1:decide ((n:Int)>9007199254740991)=true:=by simp;omega
    refine v_r c1 ?_
    refine Qam ?_;refine Qay rfl ?_;simp only[zz,simprocAttr]
    exact EvP.fv (QaW _ _ r 15 p) ⟨_,by rw[if_pos (.inl b1)],rfl⟩
   have c1:decide ((n:Int)>9007199254740991)=false:=by simp;omega
   by_cases b2:nx s q=46
   ·have c2:(((nx s q).toNat:Int)==46)=true:=QkU b2 rfl
    refine v_r (j_ c1 c2) ?_
    refine Qam ?_;refine Qay rfl ?_;simp only[zz,simprocAttr]
    exact EvP.fv (QaW _ _ r 15 p) ⟨_,by rw[if_pos (.inr (.inl b2))],rfl⟩
   have c2:(((nx s q).toNat:Int)==46)=false:=Qi9 b2 rfl
   by_cases b3:nx s q=101
   ·have c3:(((nx s q).toNat:Int)==101)=true:=QkU b3 rfl
    refine v_r (j_ c1 (j_ c2 c3)) ?_
    refine Qam ?_;refine Qay rfl ?_;simp only[zz,simprocAttr]
    exact EvP.fv (QaW _ _ r 15 p) ⟨_,by rw[if_pos (.inr (.inr (.inl b3)))],rfl⟩
   have c3:(((nx s q).toNat:Int)==101)=false:=Qi9 b3 rfl
   by_cases b4:nx s q=69
   ·have c4:(((nx s q).toNat:Int)==69)=true:=QkU b4 rfl
    refine v_r (j_ c1 (j_ c2 (j_ c3 c4))) ?_
    refine Qam ?_;refine Qay rfl ?_;simp only[zz,simprocAttr]
    exact EvP.fv (QaW _ _ r 15 p) ⟨_,by rw[if_pos (.inr (.inr (.inr b4)))],rfl⟩
   have c4:(((nx s q).toNat:Int)==69)=false:=Qi9 b4 rfl
   rw[if_neg (by rintro(h|h|h|h);exact b1 h;exact b2 h;exact b3 h;exact b4 h)]
   by_cases b5:p<f
   ·have c5:decide ((f:Int)>(p:Int))=true:=by simp;omega
    have wn:IntKind.i64.wrap (0-(n:Int))= -(n:Int):=by rw[w64 (by omega) (by omega)];omega
    refine v_r (j_ c1 (j_ c2 (j_ c3 (j_ c4 (j_ c5 (j_ wn (j_ kk3 (j_ kk5 hll)))))))) ?_
    refine QbC (vs:= [.d (flatD 2 (-(n:Int)))]) ?_ (kk0 _ _) (List.getElem?_eq_some_iff.1 gr).1 rfl rfl ⟨_,q,rfl,by rw[if_pos b5,jd];rfl,rfl⟩
    simp only[Qbw,zz,simprocAttr,kk3]
   ·have c5:decide ((f:Int)>(p:Int))=false:=by simp;omega
    refine v_r (j_ c1 (j_ c2 (j_ c3 (j_ c4 (j_ c5 (j_ kk3 (j_ kk5 hll))))))) ?_
    refine QbC (vs:= [.d (flatD 2 (n:Int))]) ?_ (kk0 _ _) (List.getElem?_eq_some_iff.1 gr).1 rfl rfl ⟨_,q,rfl,by rw[if_neg b5,jd];rfl,rfl⟩
    simp only[Qbw,zz,simprocAttr,kk3]
theorem more_eq(s:Tx)(first:Bool)(e:UInt8)(p:Nat):QfT s first e p=if s[Qar s p]? =some e then .ok (false,Qar s p+1)
 else if first then .ok (true,Qar s p)
 else match Qem s 44 (Qar s p)with
  |.error e=> .error e
  |.ok q=> .ok (true,Qar s q):=rfl
theorem QmO(lim:Nat)(H:Qab)(r:Nat)(s:Tx)(p:Nat)(first:Bool)(e:UInt8)(he:e≠0)(gr:H[r]? =some (rdO s p))(hl:lim≤r)(hs:s.length≤16384)(hp:p≤s.length):
  Fv X0 XP 165 lim [.ptr r 0,boolD first,.d (.int .u8 e.toNat)] H (fun v H'=>∃b q,QfT s first e p= .ok (b,q)∧v=boolD b∧H'=H.set r (rdO s q)) (fun z=>∃x,QfT s first e p= .error x∧z=Qc1 x.1 x.2):=by
 rw[more_eq]
 have hb:=Qns s p hp
 have ev:=QcK (pr:=QaY) lim H r s p gr hl hp hs
 have gb:=QfI gr (Qar s p)
 generalize Qar s p=q at hb ev gb⊢
 refine QlI (pn rfl) rfl (by first|exact rfl|exact pnP (pr:=QaY) rfl) rfl (show code 165=some c165 from rfl) rfl ?_;simp only[List.length_cons,List.length_nil,List.cons_append,List.nil_append,simprocAttr]
 refine v_r trivial ?_
 (apply QaP;focus(refine Evl.call (X:=X0) (ev) (Evl.all fun k e1=> ?_);simp(maxSteps:=100000000) only[zz,zd,simprocAttr,e1];(first|done|with_reducible exact rfl)))<;>(try simp only[zp,simprocAttr])
 by_cases h:s[q]? =some e
 ·have hq:=(List.getElem?_eq_some_iff.1 h).1
  have hn:nx s q=e:=by have:=QcD hq;rw[h]at this;exact(Option.some.inj this).symm
  have c1:(((nx s q).toNat:Int)==(e.toNat:Int))=true:=by rw[hn];simp
  have c2:decide ((q:Int)<(s.length:Int))=true:=by simp;omega
  have wq:IntKind.i64.wrap ((q:Int)+1)=((q+1:Nat):Int):=Qi5 (by omega)
  rw[if_pos h]
  refine v_r trivial ?_
  (apply QaP;focus(refine Evl.call (X:=X0) (Qa8 lim (H.set r (rdO s q)) r s q gb hb.2) (Evl.all fun k e1=> ?_);simp(maxSteps:=100000000) only[zz,zd,simprocAttr,c1,c2,gb,e1];(first|done|with_reducible exact rfl)))<;>(try simp only[zp,simprocAttr])
  (repeat((first|refine QhT ?_|refine QjY ?_|refine QdO ?_|refine Qcm ?_|refine Qcl ?_|(apply Qhg;focus(intro _;simp only[zz,simprocAttr,gb,wq,hl,Qc6];(first|done|with_reducible exact rfl)))|(refine QjW ?_ ?_;focus(simp only[zp,simprocAttr];done))|(refine QjX ?_ ?_;focus(simp only[zp,simprocAttr];done)))<;>(try simp only[zp,simprocAttr])))
  exact QaU rfl ⟨false,q+1,rfl,rfl,rfl⟩
 ·have hn:nx s q≠e:=fun hn=>by
   have hq:=nx_lt (s:=s) (p:=q) (by rw[hn];exact he)
   exact h (by rw[QcD hq,hn])
  have c1:(((nx s q).toNat:Int)==(e.toNat:Int))=false:=Qi9 hn rfl
  rw[if_neg h]
  cases first with
  |true=>
   rw[if_pos rfl]
   refine v_r trivial ?_
   (apply QaP;focus(refine Evl.call (X:=X0) (Qa8 lim (H.set r (rdO s q)) r s q gb hb.2) (Evl.all fun k e1=> ?_);simp(maxSteps:=100000000) only[zz,zd,simprocAttr,c1,e1];(first|done|with_reducible exact rfl)))<;>(try simp only[zp,simprocAttr])
   refine v_r trivial ?_
   exact QaU rfl ⟨true,q,rfl,rfl,rfl⟩
  |false=>
   rw[if_neg (by simp)]
   refine v_r trivial ?_
   (apply QaP;focus(refine Evl.call (X:=X0) (Qa8 lim (H.set r (rdO s q)) r s q gb hb.2) (Evl.all fun k e1=> ?_);simp(maxSteps:=100000000) only[zz,zd,simprocAttr,c1,e1];(first|done|with_reducible exact rfl)))<;>(try simp only[zp,simprocAttr])
   refine v_r trivial ?_
   rcases Qb2 s 44 q with⟨h1,h2⟩|⟨h1,h2⟩
   ·rw[h2]
    have hq1:=(List.getElem?_eq_some_iff.1 h1).1
    have ew:Ev X0 190 lim [.ptr r 0,.d (.int .u8 44)] (H.set r (rdO s q)) (.tuple []) _:=Qhk lim (H.set r (rdO s q)) r s q 44 gb hl hs h1
    have eb:=QcK (pr:=QaY) lim (H.set r (rdO s (q+1))) r s (q+1) (QfI gr _) hl (by omega) hs
    rw[Qc6]at ew eb
    (apply QaP;focus(refine Evl.call (X:=X0) (ew) (Evl.all fun k e1=> ?_);simp(maxSteps:=100000000) only[zz,zd,simprocAttr,e1];(first|done|with_reducible exact rfl)))<;>(try simp only[zp,simprocAttr])
    refine v_r trivial ?_
    (apply QaP;focus(refine Evl.call (X:=X0) (eb) (Evl.all fun k e1=> ?_);simp(maxSteps:=100000000) only[zz,zd,simprocAttr,e1];(first|done|with_reducible exact rfl)))<;>(try simp only[zp,simprocAttr])
    refine v_r trivial ?_
    exact QaU rfl ⟨true,_,rfl,rfl,rfl⟩
   ·rw[h2]
    refine Qam ?_;refine Qay rfl ?_;simp only[zz,simprocAttr]
    exact EvP.fv (Qhl lim _ r s q 44 gb hb.2 h1) ⟨_,rfl,rfl⟩
theorem QlT{lim:Nat}{H:Qab}{r:Nat}{s:Tx}{p:Nat}(gr:H[r]? =some (rdO s p))(hl:lim≤r)(hs:s.length≤16384)(hp:p≤s.length){t:Tx}{q:Nat}(h:Qb6 s p= .ok (t,q)):
  Ev X0 167 lim [.ptr r 0] H (.d (.str t)) (H.set r (rdO s q)):=by
 refine QeQ (F:=QhZ) rfl ?_
 have h0:lim≤r∧(0:Int)≤(p:Int)∧(p:Int)≤(s.length:Int)∧s.length≤16384:=⟨hl,by omega,by omega,hs⟩
 simp only[QhZ,gr,if_pos h0,Int.toNat_natCast,h]
theorem QlU{lim:Nat}{H:Qab}{r:Nat}{s:Tx}{p:Nat}(gr:H[r]? =some (rdO s p))(hl:lim≤r)(hs:s.length≤16384)(hp:p≤s.length){e:Nat×Nat}(h:Qb6 s p= .error e):
  EvP XP 167 lim [.ptr r 0] H (Qc1 e.1 e.2):=by
 refine EvP_prim (F:=QfA) rfl rfl ?_
 have h0:lim≤r∧(0:Int)≤(p:Int)∧(p:Int)≤(s.length:Int)∧s.length≤16384:=⟨hl,by omega,by omega,hs⟩
 simp only[QfA,gr,if_pos h0,Int.toNat_natCast,h]
def QhS(f:Nat):Prop:=∀(lim:Nat) (H:Qab) (r:Nat) (s:Tx) (p deep:Nat),H[r]? =some (rdO s p)→lim≤r→s.length≤16384→p≤s.length→deep≤13→2*(s.length-p)+1≤f→
 Fv X0 XP 118 lim [.ptr r 0,intD deep] H (fun v H'=>∃j q,Qbk s f deep p= .ok (j,q)∧v= .d j.d∧H'=H.set r (rdO s q)) (fun z=>∃e,Qbk s f deep p= .error e∧z=Qc1 e.1 e.2)
theorem Qnt(c:UInt8):Qgr c=((((c.toNat:Int) !=0))&&(Qce c||([91,123,34,110,116,102,45]:Tx).contains c)):=by
 unfold Qgr
 simp only[List.contains_cons,List.contains_nil,Bool.or_false,Bool.or_assoc]
 by_cases h:c=0
 ·subst h;rfl
 ·have:(((c.toNat:Int) !=0))=true:=by
   have:=Qi9 (c:=c) (k:=0) (n:=0) h rfl
   simp[bne,this]
  rw[this,Bool.true_and]
theorem deep_eq(d:Nat):decide ((d:Int)>12)=decide (12<d):=by
 rw[Bool.eq_iff_iff];simp;omega
abbrev zJ:List AV:= [intD 0,intD 0,.d (.str []),.fslice [],.fslice []]
theorem duo{H:Qab}{r:Nat}{o:AObj}(gr:H[r]? =some o):∃KK:AObj→AObj→AObj→Qab,(∀x y z,KK x y z=H.set r x++ [y,z])∧(∀x y z,(KK x y z)[r]? =some x)∧(∀x y z,(KK x y z)[H.length]? =some y)∧(∀x y z,(KK x y z)[H.length+1]? =some z)∧
  (∀x y z x',(KK x y z).set r x'=KK x' y z)∧(∀x y z y',(KK x y z).set H.length y'=KK x y' z)∧(∀x y z z',(KK x y z).set (H.length+1) z'=KK x y z'):=by
 obtain⟨hr,e⟩:=List.getElem?_eq_some_iff.1 gr
 refine⟨fun x y z=>H.set r x++ [y,z],fun _ _ _=>rfl,fun x y z=> ?_,fun x y z=> ?_,fun x y z=> ?_,fun x y z x'=> ?_,fun x y z y'=> ?_,fun x y z z'=> ?_⟩
 ·simp only;rw[List.getElem?_append_left (by simpa using hr)];simp[hr]
 ·simp only;rw[List.getElem?_append_right (by simp)];simp
 ·simp only;rw[List.getElem?_append_right (by simp)];simp
 ·simp only;rw[List.set_append_left _ _ (by simpa using hr),List.set_set]
 ·simp only;rw[List.set_append_right _ _ (by simp)];simp
 ·simp only;rw[List.set_append_right _ _ (by simp)];simp
theorem trio{H:Qab}{r:Nat}{o:AObj}(gr:H[r]? =some o):∃KK:AObj→AObj→AObj→AObj→Qab,(∀x y z m,KK x y z m=H.set r x++ [y,z,m])∧(∀x y z m,(KK x y z m)[r]? =some x)∧(∀x y z m,(KK x y z m)[H.length]? =some y)∧(∀x y z m,(KK x y z m)[H.length+1]? =some z)∧(∀x y z m,(KK x y z m)[H.length+2]? =some m)∧
  (∀x y z m x',(KK x y z m).set r x'=KK x' y z m)∧(∀x y z m y',(KK x y z m).set H.length y'=KK x y' z m)∧(∀x y z m z',(KK x y z m).set (H.length+1) z'=KK x y z' m)∧(∀x y z m m',(KK x y z m).set (H.length+2) m'=KK x y z m'):=by
 obtain⟨hr,e⟩:=List.getElem?_eq_some_iff.1 gr
 refine⟨fun x y z m=>H.set r x++ [y,z,m],fun _ _ _ _=>rfl,fun x y z m=> ?_,fun x y z m=> ?_,fun x y z m=> ?_,fun x y z m=> ?_,fun x y z m x'=> ?_,fun x y z m y'=> ?_,fun x y z m z'=> ?_,fun x y z m z'=> ?_⟩
 ·simp only;rw[List.getElem?_append_left (by simpa using hr)];simp[hr]
 ·simp only;rw[List.getElem?_append_right (by simp)];simp
 ·simp only;rw[List.getElem?_append_right (by simp)];simp
 ·simp only;rw[List.getElem?_append_right (by simp)];simp
 ·simp only;rw[List.set_append_left _ _ (by simpa using hr),List.set_set]
 ·simp only;rw[List.set_append_right _ _ (by simp)];simp
 ·simp only;rw[List.set_append_right _ _ (by simp)];simp
 ·simp only;rw[List.set_append_right _ _ (by simp)];simp
theorem list_eq(s:Tx)(f deep:Nat)(first:Bool)(acc:List J)(p:Nat):Qez s (f+1) deep first acc p=match QfT s first 93 p with
  |.error e=> .error e
  |.ok (false,p)=> .ok (acc,p)
  |.ok (true,p)=>match Qbk s f (deep+1) p with
   |.error e=> .error e
   |.ok (j,q)=>Qez s f deep false (acc++ [j]) q:=by
 conv=>lhs;unfold Qez
 rfl
theorem headJ(l:List J):QaS 5 (l.map J.d)=true:=by
 cases l with
 |nil=>rfl
 |cons j l=>rw[List.map_cons,jd];rfl
theorem headS(l:List Tx):QaS 1 (l.map D.str)=true:=by
 cases l with
 |nil=>rfl
 |cons j l=>rfl
theorem tk25:Tab.tak 118=false:=rfl
abbrev QmS(acc:List J):AObj:= .cells [intD 4,intD 0,.d (.str []),.fslice [],.fslice (acc.map J.d)]
abbrev listT(acc:List J):AObj:= .cells [intD 4,intD 0,.d (.str []),.fslice [],.d (.slice (acc.map J.d))]
theorem Qnc(s:Tx)(f deep:Nat)(first:Bool)(ks:List Tx)(l:List J)(p:Nat):Qbm s (f+1) deep first ks l p=match QfT s first 125 p with
  |.error e=> .error e
  |.ok (false,p)=> .ok (ks,l,p)
  |.ok (true,p)=>match Qb6 s p with
   |.error e=> .error e
   |.ok (k,q)=>if ks.contains k then .error (14,p)else match Qem s 58 (Qar s q)with
    |.error e=> .error e
    |.ok r=>match Qbk s f (deep+1) (Qar s r)with
     |.error e=> .error e
     |.ok (j,z)=>Qbm s f deep false (ks++ [k]) (l++ [j]) z:=by
 conv=>lhs;unfold Qbm
 rfl
abbrev QiB(ks:List Tx):List (D×AV):=ks.map fun k=>(D.str k,boolD true)
abbrev Qnb(ks:List Tx)(acc:List J):AObj:= .cells [intD 5,intD 0,.d (.str []),.fslice (ks.map D.str),.fslice (acc.map J.d)]
abbrev fldT(ks:List Tx)(acc:List J):AObj:= .cells [intD 5,intD 0,.d (.str []),.fslice (ks.map D.str),.d (.slice (acc.map J.d))]
abbrev QfW(ks:List Tx):AObj:= .map .str (QiB ks)
theorem QiE(k:Tx):Qcd .str (.str k)=true:=rfl
theorem Ql1(a b:Tx):D.beq (.str a) (.str b)=(a==b):=rfl
theorem QiM(k:Tx):∀ks:List Tx,Qgd (.str k) (QiB ks)=if ks.contains k then some (boolD true)else none
 | []=>rfl
 |a::ks=>by
  simp only[QiB,List.map_cons,Qgd,Ql1,List.contains_cons]
  by_cases h:(k==a)=true
  ·simp[h]
  ·have:=QiM k ks
   simp only[QiB]at this
   simp[h,this]
theorem Qkb(k:Tx):∀ks:List Tx,ks.contains k=false→QlJ (.str k) (boolD true) (QiB ks)=QiB (ks++ [k])
 | [],_=>rfl
 |a::ks,h=>by
  simp only[List.contains_cons,Bool.or_eq_false_iff]at h
  simp only[QiB,List.map_cons,QlJ,Ql1,List.cons_append,h.1]
  have:=Qkb k ks h.2
  simp only[QiB]at this
  simp[this]
def FieldsOK(f:Nat):Prop:=∀(lim:Nat) (H:Qab) (r:Nat) (s:Tx) (p deep:Nat),H[r]? =some (rdO s p)→lim≤r→s.length≤16384→p≤s.length→deep≤12→2*(s.length-p)+2≤f→
 Fv X0 XP 166 lim [.ptr r 0,intD deep] H (fun v H'=>∃y,Qbm s f deep true [] [] p= .ok y∧v= .d (J.mk 5 0 [] y.1 y.2.1).d∧H'=H.set r (rdO s y.2.2)) (fun z=>∃e,Qbm s f deep true [] [] p= .error e∧z=Qc1 e.1 e.2)
theorem Qly(f:Nat)(ih:∀g,g<f→QhS g):FieldsOK f:=by
 intro lim H r s p deep gr hl hs hp hd hf
 refine QkR (pn rfl) rfl (by first|exact rfl|exact pnP (pr:=QaY) rfl) rfl (show code 166=some c166 from rfl) rfl ?_;simp only[List.length_cons,List.length_nil,List.cons_append,List.nil_append,simprocAttr]
 obtain⟨KK,kk0,kk1,kk2,kk3,kk4,kk5,hrl⟩:=Qhz gr zC
 obtain⟨K3,d0,d1,d2,d3,d4,d5,d6,d7,d8⟩:=trio gr
 have hll:=Nat.le_trans hl hrl
 have hr:=(List.getElem?_eq_some_iff.1 gr).1
 have hll2:lim≤H.length+1:=by omega
 have hll3:lim≤H.length+2:=by omega
 have a1:(H++ [zC]).length=H.length+1:=by simp
 have a2:∀(B C:AObj),(H++ [zC]++ [B]).set (H.length+1) C=H++ [zC,C]:=fun B C=>by
  rw[List.append_assoc,List.set_append_right _ _ (by simp)];simp
 have a3:∀(B:AObj),(H++ [zC]++ [B])[H.length+1]? =some B:=fun B=>by
  rw[List.append_assoc,List.getElem?_append_right (by simp)];simp
 have a4:∀(B:AObj),(H++ [zC,B]).length=H.length+2:=fun B=>by simp
 have a5:∀(B C:AObj),H++ [zC,B]++ [C]=K3 (rdO s p) zC B C:=fun B C=>by
  rw[d0,Qjn gr];simp
 (iterate 6 refine v_s (j_ a1 (j_ a2 (j_ a3 (j_ a4 (j_ a5 hll2))))) ?_)
 obtain⟨L,hL0⟩:∃L,L=Qbm s f deep true [] [] p:=⟨_,rfl⟩
 rw[←hL0]
 (iterate 4 refine v_s trivial ?_)
 refine V_lp (fun m st=>∃first ks acc p' f',p'≤s.length∧ks.length≤p'∧acc.length≤p'∧m=s.length-p'∧f'≤f∧2*(s.length-p')+2≤f'∧L=Qbm s f' deep first ks acc p'∧∃x:Nat→AV,st=⟨[.ptr r 0,intD deep,x 2,x 3,.ptr H.length 0,.ptr (H.length+1) 0,.mapr (H.length+2),boolD first,x 8,x 9,x 10,x 11,x 12],K3 (rdO s p') zC (Qnb ks acc) (QfW ks)⟩) ?_ _ _ ⟨true,[],[],p,f,hp,Nat.zero_le _,Nat.zero_le _,rfl,Nat.le_refl _,hf,hL0,QaC _ _ _ rfl⟩
 rintro m _ ⟨first,ks,acc,p',f',hp',hks,hac,rfl,hf1,hf2,hls,x,rfl⟩
 obtain⟨g,rfl⟩:∃g,f'=g+1:=⟨f'-1,by omega⟩
 rw[Qnc]at hls
 have hm:=QmO lim _ r s p' first 125 (by decide) (d1 (rdO s p') zC (Qnb ks acc) (QfW ks)) hl hs hp'
 cases hmo:QfT s first 125 p' with
 |error e=>
  rw[hmo]at hls
  refine v_r trivial ?_
  refine Qam ?_;refine Qay rfl ?_;simp only[zz,simprocAttr]
  exact EvP.fv (hm.noJ hmo) ⟨_,by rw[hls],rfl⟩
 |ok y=>
  obtain⟨b,q⟩:=y
  rw[hmo]at hls
  have hmb:=Qcq hmo
  have hq:=hmb.2.1 hp'
  have em:Ev X0 165 lim [.ptr r 0,boolD first,.d (.int .u8 125)] (K3 (rdO s p') zC (Qnb ks acc) (QfW ks)) (boolD b) _:=hm.okJ hmo
  rw[d5]at em
  cases b with
  |false=>
   refine v_r trivial ?_
   (apply QaP;focus(refine Evl.call (X:=X0) (em) (Evl.all fun k e1=> ?_);simp(maxSteps:=100000000) only[zz,zd,simprocAttr,e1];(first|done|with_reducible exact rfl)))<;>(try simp only[zp,simprocAttr])
   refine v_r (j_ d3 (j_ d2 (j_ d6 hll))) ?_
   refine QbC (vs:= [.d (J.mk 5 0 [] ks acc).d]) ?_ (d0 _ _ _ _) hr rfl rfl ⟨(ks,acc,q),by rw[hls],rfl,rfl⟩
   rw[jd]
   simp only[Qbw,zz,simprocAttr,d2];rfl
  |true=>
   simp only at hls
   have g1:=d1 (rdO s q) zC (Qnb ks acc) (QfW ks)
   refine v_r trivial ?_
   (apply QaP;focus(refine Evl.call (X:=X0) (em) (Evl.all fun k e1=> ?_);simp(maxSteps:=100000000) only[zz,zd,simprocAttr,e1];(first|done|with_reducible exact rfl)))<;>(try simp only[zp,simprocAttr])
   refine v_r g1 ?_
   cases ht:Qb6 s q with
   |error e=>
    rw[ht]at hls
    refine Qam ?_;refine Qay rfl ?_;simp only[zz,simprocAttr]
    exact EvP.fv (QlU g1 hl hs hq ht) ⟨_,hls,rfl⟩
   |ok y=>
   obtain⟨k,q2⟩:=y
   rw[ht]at hls
   have htl:=Qjb ht
   have et:=QlT g1 hl hs hq ht
   rw[d5]at et
   simp only at hls
   have hfk:=QiM k ks
   have g2:=d4 (rdO s q2) zC (Qnb ks acc) (QfW ks)
   (apply QaP;focus(refine Evl.call (X:=X0) (et) (Evl.all fun k e1=> ?_);simp(maxSteps:=100000000) only[zz,zd,simprocAttr,e1];(first|done|with_reducible exact rfl)))<;>(try simp only[zp,simprocAttr])
   cases hkc:ks.contains k with
   |true=>
    rw[hkc]at hfk hls
    simp only[if_true]at hfk hls
    refine v_r (j_ g2 (j_ hfk @QiE)) ?_
    refine Qam ?_;refine Qay rfl ?_;simp only[zz,simprocAttr]
    exact EvP.fv (QaW _ _ r 14 q) ⟨_,hls,rfl⟩
   |false=>
   rw[hkc]at hfk hls
   simp only[Bool.false_eq_true,if_false]at hfk hls
   have hsk:=Qkb k ks hkc
   have g3:=d1 (rdO s q2) zC (Qnb ks acc) (QfW (ks++ [k]))
   refine v_r (j_ g2 (j_ hfk (j_ @QiE (j_ hsk (j_ d8 hll3))))) ?_
   have hb1:=Qa7 s q2
   have eb1:=QcK (pr:=QaY) lim _ r s q2 g3 hl htl.2 hs
   rw[d5]at eb1
   (apply QaP;focus(refine Evl.call (X:=X0) (eb1) (Evl.all fun k e1=> ?_);simp(maxSteps:=100000000) only[zz,zd,simprocAttr,e1];(first|done|with_reducible exact rfl)))<;>(try simp only[zp,simprocAttr])
   have g4:=d1 (rdO s (Qar s q2)) zC (Qnb ks acc) (QfW (ks++ [k]))
   rcases Qb2 s 58 (Qar s q2)with⟨h1,h2⟩|⟨h1,h2⟩
   rotate_left
   ·rw[h2]at hls
    refine v_r trivial ?_
    refine Qam ?_;refine Qay rfl ?_;simp only[zz,simprocAttr]
    exact EvP.fv (Qhl lim _ r s _ 58 g4 (hb1.2 htl.2) h1) ⟨_,hls,rfl⟩
   rw[h2]at hls
   simp only at hls
   have h1l:=(List.getElem?_eq_some_iff.1 h1).1
   have hb2:=Qa7 s (Qar s q2+1)
   have ew:Ev X0 190 lim [.ptr r 0,.d (.int .u8 58)] (K3 (rdO s (Qar s q2)) zC (Qnb ks acc) (QfW (ks++ [k]))) (.tuple []) _:=Qhk lim _ r s _ 58 g4 hl hs h1
   rw[d5]at ew
   have g5:=d1 (rdO s (Qar s q2+1)) zC (Qnb ks acc) (QfW (ks++ [k]))
   have eb2:=QcK (pr:=QaY) lim _ r s _ g5 hl (by omega) hs
   rw[d5]at eb2
   refine v_r trivial ?_
   (apply QaP;focus(refine Evl.call (X:=X0) (ew) (Evl.all fun k e1=> ?_);simp(maxSteps:=100000000) only[zz,zd,simprocAttr,e1];(first|done|with_reducible exact rfl)))<;>(try simp only[zp,simprocAttr])
   refine v_r trivial ?_
   (apply QaP;focus(refine Evl.call (X:=X0) (eb2) (Evl.all fun k e1=> ?_);simp(maxSteps:=100000000) only[zz,zd,simprocAttr,e1];(first|done|with_reducible exact rfl)))<;>(try simp only[zp,simprocAttr])
   generalize hz:Qar s (Qar s q2+1)=z at hls hb2 eb2⊢
   have hs1:=headS ks
   have hs2:((ks.map D.str).length+1)*17≤70368744177664:=by rw[List.length_map];omega
   refine v_r (j_ d3 (j_ d7 (j_ hll2 (j_ hs1 hs2)))) ?_
   have hkk:ks.map D.str++ [D.str k]=(ks++ [k]).map D.str:=by simp
   rw[hkk]
   have wd:IntKind.i64.wrap ((deep:Int)+1)=((deep+1:Nat):Int):=Qi5 (by omega)
   have hv1:=ih g (by omega) lim _ r s z (deep+1) (d1 (rdO s z) zC (Qnb (ks++ [k]) acc) (QfW (ks++ [k]))) hl hs (hb2.2 (by omega)) (by omega) (by omega)
   have hv2:=ih g (by omega) lim _ r s z (deep+1) (d1 (rdO s z) zC (fldT (ks++ [k]) acc) (QfW (ks++ [k]))) hl hs (hb2.2 (by omega)) (by omega) (by omega)
   cases hvo:Qbk s g (deep+1) z with
   |error e=>
    rw[hvo]at hls
    (apply V_pan;focus(refine Evl.panN (X:=X0) (hv1.noJ hvo) (Evl.panN (X:=X0) (hv2.noJ hvo) (Evl.all fun k e2 e1=> ?_));simp(maxSteps:=100000000) only[zz,zd,simprocAttr,wd,d3,d7,hll2,tk25,e2,e1];(first|done|with_reducible exact rfl)))
    exact⟨e,hls,rfl⟩
   |ok y=>
    obtain⟨j,z2⟩:=y
    rw[hvo]at hls
    have hvl:=Qfg hvo
    have ev1:=hv1.okJ hvo
    have ev2:=hv2.okJ hvo
    rw[d5]at ev1 ev2
    have hj:=jd j
    have hz1:=headJ acc
    have hz2:((acc.map J.d).length+1)*85≤70368744177664:=by rw[List.length_map];omega
    (apply QaP;focus(refine Evl.call (X:=X0) (ev1) (Evl.call (X:=X0) (ev2) (Evl.all fun k e2 e1=> ?_));simp(maxSteps:=100000000) only[zz,zd,simprocAttr,hj,hz1,hz2,wd,d3,d7,hll2,d5,e2,e1];(first|done|with_reducible exact rfl)))<;>(try simp only[zp,simprocAttr])
    refine v_r trivial ?_
    refine⟨s.length-z2,by omega,false,ks++ [k],acc++ [j],z2,g,hvl.2,by simp;omega,by simp;omega,rfl,by omega,by omega,hls,Qe4 ?_ rfl⟩
    rw[←hj];simp only[Qnb,List.map_append,List.map_cons,List.map_nil]
theorem QkT(f:Nat)(ih:∀g,g<f+1→QhS g):QhS (f+1):=by
 intro lim H r s p deep gr hl hs hp hd hf
 refine QkR (pn rfl) rfl (by first|exact rfl|exact pnP (pr:=QaY) rfl) rfl (show code 118=some c118 from rfl) rfl ?_;simp only[List.length_cons,List.length_nil,List.cons_append,List.nil_append,simprocAttr]
 obtain⟨KK,kk0,kk1,kk2,kk3,kk4,kk5,hrl⟩:=Qhz gr zC
 have hll:=Nat.le_trans hl hrl
 have hr:=(List.getElem?_eq_some_iff.1 gr).1
 (iterate 2 refine v_s trivial ?_)
 rw[←kk1]
 refine QhT ?_
 (apply QaP;focus(refine Evl.call (X:=X0) (Qa8 lim (KK (rdO s p) zC) r s p (kk2 _ _) hp) (Evl.all fun k e1=> ?_);simp(maxSteps:=100000000) only[zz,zd,simprocAttr,e1];(first|done|with_reducible exact rfl)))<;>(try simp only[zp,simprocAttr])
 generalize hc:nx s p=c
 refine QhT ?_
 refine V_mid (fun st=>∃x:Nat→AV,st=⟨[.ptr r 0,intD deep,boolD (decide (12<deep)&&Qgr c),x 3,x 4,x 5,x 6,x 7,x 8,x 9,.ptr H.length 0,.d (.int .u8 c.toNat),x 12,x 13,x 14,x 15,x 16,x 17],KK (rdO s p) zC⟩) ?_ ?_
 ·rw[Qnt,←Qm4,←deep_eq]
  cases hz:decide ((deep:Int)>12)with
  |false=>
   refine v_r (j_ hz @Bool.false_and) ?_
   exact QaC _ _ _ rfl
  |true=>
   cases h0:((c.toNat:Int) !=0)with
   |false=>
    refine v_r (j_ hz (j_ h0 @Bool.false_and)) ?_
    exact QaC _ _ _ rfl
   |true=>
    cases h1:Qce c with
    |true=>
     (apply QaP;focus(refine Evl.call (X:=X0) (Qdy lim (KK (rdO s p) zC) c) (Evl.all fun k e1=> ?_);simp(maxSteps:=100000000) only[zz,zd,simprocAttr,hz,h0,h1,Bool.true_and,Bool.true_or,e1];(first|done|with_reducible exact rfl)))<;>(try simp only[zp,simprocAttr])
     exact QaC _ _ _ rfl
    |false=>
     (apply QaP;focus(refine Evl.call (X:=X0) (Qdy lim (KK (rdO s p) zC) c) (Evl.call (X:=X0) (Qf1 lim (KK (rdO s p) zC) [91,123,34,110,116,102,45] c) (Evl.all fun k e2 e1=> ?_));simp(maxSteps:=100000000) only[zz,zd,simprocAttr,hz,h0,h1,Bool.true_and,Bool.false_or,e2,e1];(first|done|with_reducible exact rfl)))<;>(try simp only[zp,simprocAttr])
     exact QaC _ _ _ rfl
 rintro _ ⟨x,rfl⟩
 have k2:=kk2 (rdO s p) zC
 unfold Qbk
 rw[hc]
 cases hb:(decide (12<deep)&&Qgr c)with
 |true=>
  rw[if_pos (by simpa using hb)]
  refine v_r trivial ?_
  refine Qam ?_;apply Qa9 3;(focus(intro _;simp only[zz,simprocAttr,k2];(first|done|with_reducible exact rfl)));simp only[List.drop_succ_cons,List.drop_zero];refine Qay rfl ?_;simp only[zz,simprocAttr]
  exact EvP.fv (QaW _ _ r 12 p) ⟨_,rfl,rfl⟩
 |false=>
 rw[if_neg (by simpa using hb)]
 have k3:=kk3 (rdO s p) zC
 have wp:IntKind.i64.wrap ((p:Int)+1)=((p+1:Nat):Int):=Qi5 (by omega)
 by_cases h91:c=91
 ·have hpl:p<s.length:=Qd2 (by rw[hc,h91];decide)
  have c1:((c.toNat:Int)==91)=true:=QkU h91 rfl
  have hd2:deep≤12:=by
   rw[h91]at hb
   simp only[show Qgr 91=true from rfl,Bool.and_true,decide_eq_false_iff_not]at hb
   omega
  rw[if_pos h91]
  refine v_r (j_ c1 (j_ k2 (j_ wp (j_ hl (j_ kk5 (j_ kk3 kk4)))))) ?_
  obtain⟨K2,d0,d1,d2,d3,d4,d5,d6⟩:=duo gr
  have hl2:(H.set r (.cells [.d (.str s),intD ((p+1:Nat):Int)])++ [zC]).length=H.length+1:=by simp
  have hs2:∀(A B C:AObj),(H.set r A++ [zC]++ [B]).set (H.length+1) C=K2 A zC C:=fun A B C=>by
   rw[d0,List.append_assoc,List.set_append_right _ _ (by simp)];simp
  have hg2:∀(A B:AObj),(H.set r A++ [zC]++ [B])[H.length+1]? =some B:=fun A B=>by
   rw[List.append_assoc,List.getElem?_append_right (by simp)];simp
  have hll2:lim≤H.length+1:=by omega
  rw[kk0]
  (iterate 2 refine v_s (j_ hl2 (j_ hs2 (j_ hg2 hll2))) ?_)
  (iterate 3 refine v_s trivial ?_)
  obtain⟨L,hL0⟩:∃L,L=Qez s f deep true [] (p+1):=⟨_,rfl⟩
  rw[←hL0]
  refine V_lp (fun m st=>∃first acc p' f',p'≤s.length∧acc.length≤p'∧m=s.length-p'∧f'≤f∧2*(s.length-p')+2≤f'∧L=Qez s f' deep first acc p'∧∃x:Nat→AV,st=⟨[.ptr r 0,intD deep,x 2,x 3,x 4,x 5,x 6,x 7,x 8,x 9,.ptr H.length 0,x 11,x 12,.ptr (H.length+1) 0,boolD first,x 15,x 16,x 17],K2 (rdO s p') zC (QmS acc)⟩) ?_ _ _ ⟨true,[],p+1,f,by omega,Nat.zero_le _,rfl,Nat.le_refl _,by omega,hL0,QaC _ _ _ rfl⟩
  rintro m _ ⟨first,acc,p',f',hp',hac,rfl,hf1,hf2,hls,x,rfl⟩
  obtain⟨g,rfl⟩:∃g,f'=g+1:=⟨f'-1,by omega⟩
  rw[list_eq]at hls
  have hm:=QmO lim _ r s p' first 93 (by decide) (d1 (rdO s p') zC (QmS acc)) hl hs hp'
  cases hmo:QfT s first 93 p' with
  |error e=>
   rw[hmo]at hls
   refine v_r trivial ?_
   refine Qam ?_;refine Qay rfl ?_;simp only[zz,simprocAttr]
   exact EvP.fv (hm.noJ hmo) ⟨_,by rw[hls],rfl⟩
  |ok y=>
   obtain⟨b,q⟩:=y
   rw[hmo]at hls
   have hmb:=Qcq hmo
   have hq:=hmb.2.1 hp'
   have em:Ev X0 165 lim [.ptr r 0,boolD first,.d (.int .u8 93)] (K2 (rdO s p') zC (QmS acc)) (boolD b) _:=hm.okJ hmo
   rw[d4]at em
   cases b with
   |false=>
    refine v_r trivial ?_
    (apply QaP;focus(refine Evl.call (X:=X0) (em) (Evl.all fun k e1=> ?_);simp(maxSteps:=100000000) only[zz,zd,simprocAttr,e1];(first|done|with_reducible exact rfl)))<;>(try simp only[zp,simprocAttr])
    refine v_r (j_ d3 (j_ d2 (j_ d5 hll))) ?_
    refine QbC (vs:= [.d (J.mk 4 0 [] [] acc).d]) ?_ (d0 _ _ _) hr rfl rfl ⟨_,q,by rw[hls],rfl,rfl⟩
    rw[jd]
    simp only[Qbw,zz,simprocAttr,d2];rfl
   |true=>
    have wd:IntKind.i64.wrap ((deep:Int)+1)=((deep+1:Nat):Int):=Qi5 (by omega)
    have hv1:=ih g (by omega) lim _ r s q (deep+1) (d1 (rdO s q) zC (QmS acc)) hl hs hq (by omega) (by omega)
    have hv2:=ih g (by omega) lim _ r s q (deep+1) (d1 (rdO s q) zC (listT acc)) hl hs hq (by omega) (by omega)
    simp only at hls
    refine v_r trivial ?_
    (apply QaP;focus(refine Evl.call (X:=X0) (em) (Evl.all fun k e1=> ?_);simp(maxSteps:=100000000) only[zz,zd,simprocAttr,e1];(first|done|with_reducible exact rfl)))<;>(try simp only[zp,simprocAttr])
    refine v_r trivial ?_
    cases hvo:Qbk s g (deep+1) q with
    |error e=>
     (apply V_pan;focus(refine Evl.panN (X:=X0) (hv1.noJ hvo) (Evl.panN (X:=X0) (hv2.noJ hvo) (Evl.all fun k e2 e1=> ?_));simp(maxSteps:=100000000) only[zz,zd,simprocAttr,wd,d3,d6,hll2,tk25,e2,e1];(first|done|with_reducible exact rfl)))
     exact⟨e,by rw[hls,hvo],rfl⟩
    |ok y=>
     obtain⟨j,z⟩:=y
     have hvl:=Qfg hvo
     have ev1:=hv1.okJ hvo
     have ev2:=hv2.okJ hvo
     rw[d4]at ev1 ev2
     have hj:=jd j
     have hz1:=headJ acc
     have hz2:((acc.map J.d).length+1)*85≤70368744177664:=by rw[List.length_map];omega
     (apply QaP;focus(refine Evl.call (X:=X0) (ev1) (Evl.call (X:=X0) (ev2) (Evl.all fun k e2 e1=> ?_));simp(maxSteps:=100000000) only[zz,zd,simprocAttr,hj,hz1,hz2,wd,d3,d6,hll2,d4,e2,e1];(first|done|with_reducible exact rfl)))<;>(try simp only[zp,simprocAttr])
     refine v_r trivial ?_
     refine⟨s.length-z,by omega,false,acc++ [j],z,g,hvl.2,by simp;omega,rfl,by omega,by omega,by rw[hls,hvo],Qe4 ?_ rfl⟩
     rw[←hj];simp only[QmS,List.map_append,List.map_cons,List.map_nil]
 have c1:((c.toNat:Int)==91)=false:=Qi9 h91 rfl
 rw[if_neg h91]
 by_cases h123:c=123
 ·have hpl:p<s.length:=Qd2 (by rw[hc,h123];decide)
  have c2:((c.toNat:Int)==123)=true:=QkU h123 rfl
  have hd2:deep≤12:=by
   rw[h123]at hb
   simp only[show Qgr 123=true from rfl,Bool.and_true,decide_eq_false_iff_not]at hb
   omega
  rw[if_pos h123]
  refine v_r (j_ c1 (j_ c2 (j_ k2 (j_ wp (j_ hl (j_ kk5 (j_ kk3 kk4))))))) ?_
  have hf0:=Qly f (fun g hg=>ih g (by omega)) lim _ r s (p+1) deep (kk2 (rdO s (p+1)) zC) hl hs (by omega) hd2 (by omega)
  cases ht:Qbm s f deep true [] [] (p+1)with
  |error e=>
   refine Qam ?_;refine Qay rfl ?_;simp only[zz,simprocAttr]
   exact EvP.fv (hf0.noP ht) ⟨_,rfl,rfl⟩
  |ok y=>
   have ef:=hf0.okP ht
   rw[kk4]at ef
   obtain⟨ks,l,q⟩:=y
   have hj:=jd (J.mk 5 0 [] ks l)
   (apply QaP;focus(refine Evl.call (X:=X0) (ef) (Evl.all fun k e1=> ?_);simp(maxSteps:=100000000) only[zz,zd,simprocAttr,hj,kk5,kk3,kk4,hll,e1];(first|done|with_reducible exact rfl)))<;>(try simp only[zp,simprocAttr])
   refine v_r trivial ?_
   refine QbC (vs:= [.d (J.mk 5 0 [] ks l).d]) ?_ (kk0 _ _) hr rfl rfl ⟨_,q,rfl,rfl,rfl⟩
   rw[jd]
   simp only[Qbw,zz,simprocAttr,kk3]
 have c2:((c.toNat:Int)==123)=false:=Qi9 h123 rfl
 rw[if_neg h123]
 by_cases h34:c=34
 ·have c3:((c.toNat:Int)==34)=true:=QkU h34 rfl
  rw[if_pos h34]
  refine v_r (j_ c1 (j_ c2 c3)) ?_
  cases ht:Qb6 s p with
  |error e=>
   refine Qam ?_;refine Qay rfl ?_;simp only[zz,simprocAttr]
   exact EvP.fv (QlU k2 hl hs hp ht) ⟨_,rfl,rfl⟩
  |ok y=>
   obtain⟨t,q⟩:=y
   (apply QaP;focus(refine Evl.call (X:=X0) (QlT k2 hl hs hp ht) (Evl.all fun k e1=> ?_);simp(maxSteps:=100000000) only[zz,zd,simprocAttr,kk5,kk3,kk4,hll,e1];(first|done|with_reducible exact rfl)))<;>(try simp only[zp,simprocAttr])
   refine v_r trivial ?_
   refine QbC (vs:= [.d (J.mk 3 0 t [] []).d]) ?_ (kk0 _ _) hr rfl rfl ⟨_,q,rfl,rfl,rfl⟩
   rw[jd]
   simp only[Qbw,zz,simprocAttr,kk3];rfl
 have c3:((c.toNat:Int)==34)=false:=Qi9 h34 rfl
 rw[if_neg h34]
 by_cases h110:c=110
 ·have c4:((c.toNat:Int)==110)=true:=QkU h110 rfl
  rw[if_pos h110]
  refine v_r (j_ c1 (j_ c2 (j_ c3 c4))) ?_
  have hw:=Qi7 (pr:=QaY) (pP:=Qc8) lim _ r s p [110,117,108,108] 0 0 k2 hl hs (by decide) hp
  cases ht:QdB s [110,117,108,108] p with
  |error e=>
   refine Qam ?_;apply Qa9 1;(focus(intro _;simp only[zz,simprocAttr];(first|done|with_reducible exact rfl)));simp only[List.drop_succ_cons,List.drop_zero];refine Qay rfl ?_;simp only[zz,simprocAttr]
   exact EvP.fv (hw.noP ht) ⟨_,rfl,rfl⟩
  |ok q=>
   (apply QaP;focus(refine Evl.call (X:=X0) (hw.okP ht) (Evl.all fun k e1=> ?_);simp(maxSteps:=100000000) only[zz,zd,simprocAttr,kk5,kk3,kk4,hll,e1];(first|done|with_reducible exact rfl)))<;>(try simp only[zp,simprocAttr])
   refine v_r trivial ?_
   refine QbC (vs:= [.d (J.mk 0 0 [] [] []).d]) ?_ (kk0 _ _) hr rfl rfl ⟨_,q,rfl,rfl,rfl⟩
   rw[jd]
   simp only[Qbw,zz,simprocAttr,kk3];rfl
 have c4:((c.toNat:Int)==110)=false:=Qi9 h110 rfl
 rw[if_neg h110]
 by_cases h116:c=116
 ·have c5:((c.toNat:Int)==116)=true:=QkU h116 rfl
  rw[if_pos h116]
  refine v_r (j_ c1 (j_ c2 (j_ c3 (j_ c4 c5)))) ?_
  have hw:=Qi7 (pr:=QaY) (pP:=Qc8) lim _ r s p [116,114,117,101] 1 1 k2 hl hs (by decide) hp
  cases ht:QdB s [116,114,117,101] p with
  |error e=>
   refine Qam ?_;apply Qa9 1;(focus(intro _;simp only[zz,simprocAttr];(first|done|with_reducible exact rfl)));simp only[List.drop_succ_cons,List.drop_zero];refine Qay rfl ?_;simp only[zz,simprocAttr]
   exact EvP.fv (hw.noP ht) ⟨_,rfl,rfl⟩
  |ok q=>
   (apply QaP;focus(refine Evl.call (X:=X0) (hw.okP ht) (Evl.all fun k e1=> ?_);simp(maxSteps:=100000000) only[zz,zd,simprocAttr,kk5,kk3,kk4,hll,e1];(first|done|with_reducible exact rfl)))<;>(try simp only[zp,simprocAttr])
   refine v_r trivial ?_
   refine QbC (vs:= [.d (J.mk 1 1 [] [] []).d]) ?_ (kk0 _ _) hr rfl rfl ⟨_,q,rfl,rfl,rfl⟩
   rw[jd]
   simp only[Qbw,zz,simprocAttr,kk3];rfl
 have c5:((c.toNat:Int)==116)=false:=Qi9 h116 rfl
 rw[if_neg h116]
 by_cases h102:c=102
 ·have c6:((c.toNat:Int)==102)=true:=QkU h102 rfl
  rw[if_pos h102]
  refine v_r (j_ c1 (j_ c2 (j_ c3 (j_ c4 (j_ c5 c6))))) ?_
  have hw:=Qi7 (pr:=QaY) (pP:=Qc8) lim _ r s p [102,97,108,115,101] 1 0 k2 hl hs (by decide) hp
  cases ht:QdB s [102,97,108,115,101] p with
  |error e=>
   refine Qam ?_;apply Qa9 1;(focus(intro _;simp only[zz,simprocAttr];(first|done|with_reducible exact rfl)));simp only[List.drop_succ_cons,List.drop_zero];refine Qay rfl ?_;simp only[zz,simprocAttr]
   exact EvP.fv (hw.noP ht) ⟨_,rfl,rfl⟩
  |ok q=>
   (apply QaP;focus(refine Evl.call (X:=X0) (hw.okP ht) (Evl.all fun k e1=> ?_);simp(maxSteps:=100000000) only[zz,zd,simprocAttr,kk5,kk3,kk4,hll,e1];(first|done|with_reducible exact rfl)))<;>(try simp only[zp,simprocAttr])
   refine v_r trivial ?_
   refine QbC (vs:= [.d (J.mk 1 0 [] [] []).d]) ?_ (kk0 _ _) hr rfl rfl ⟨_,q,rfl,rfl,rfl⟩
   rw[jd]
   simp only[Qbw,zz,simprocAttr,kk3];rfl
 have c6:((c.toNat:Int)==102)=false:=Qi9 h102 rfl
 rw[if_neg h102]
 refine v_r (j_ c1 (j_ c2 (j_ c3 (j_ c4 (j_ c5 c6))))) ?_
 have hw:=QmM lim _ r s p k2 hl hs hp
 cases ht:QcS s p with
 |error e=>
  refine Qam ?_;refine Qay rfl ?_;simp only[zz,simprocAttr]
  exact EvP.fv (hw.noJ ht) ⟨_,rfl,rfl⟩
 |ok y=>
  obtain⟨j,q⟩:=y
  have hj:=jd j
  (apply QaP;focus(refine Evl.call (X:=X0) (hw.okJ ht) (Evl.all fun k e1=> ?_);simp(maxSteps:=100000000) only[zz,zd,simprocAttr,hj,kk5,kk3,kk4,hll,e1];(first|done|with_reducible exact rfl)))<;>(try simp only[zp,simprocAttr])
  refine v_r trivial ?_
  refine QbC (vs:= [.d j.d]) ?_ (kk0 _ _) hr rfl rfl ⟨_,q,rfl,rfl,rfl⟩
  rw[jd]
  simp only[Qbw,zz,simprocAttr,kk3]
theorem QhW(f:Nat):QhS f:=by
 induction f using Nat.strongRecOn with
 |_ f ih=>
  cases f with
  |zero=>intro _ _ _ _ _ _ _ _ _ _ _ h;omega
  |succ f=>exact QkT f ih
mutual
def wt:J→Nat
 |.mk _ _ t ks l=>1+t.length+(ks.map fun k=>k.length+1).sum+wts l
def wts:List J→Nat
 | []=>0
 |a::l=>wt a+wts l
end
theorem Qi6(j:J):wt j=1+j.t.length+(j.ks.map fun k=>k.length+1).sum+wts j.l:=by
 obtain⟨k,n,t,ks,l⟩:=j
 conv=>lhs;unfold wt
 rfl
theorem Qfe(a:J)(l:List J):wts (a::l)=wt a+wts l:=by
 conv=>lhs;unfold wts
theorem Qek:∀l m:List J,wts (l++m)=wts l+wts m
 | [],m=>by simp[wts]
 |a::l,m=>by rw[List.cons_append,Qfe,Qfe,Qek l m];omega
theorem wt_pos(j:J):1≤wt j:=by rw[Qi6];omega
theorem QlN:∀l:List J,l.length≤wts l
 | []=>Nat.zero_le _
 |a::l=>by have:=QlN l;have:=wt_pos a;rw[Qfe,List.length_cons];omega
theorem QlM:∀ {l:List J} {y:J},y∈l→wt y≤wts l
 |a::l,y,h=>by
  rw[Qfe]
  rcases List.mem_cons.1 h with rfl|h
  ·omega
  ·have:=QlM h;omega
theorem Ql0:∀ks:List Tx,ks.length≤(ks.map fun k=>k.length+1).sum
 | []=>Nat.zero_le _
 |a::l=>by have:=Ql0 l;simp only[List.length_cons,List.map_cons,List.sum_cons];omega
theorem wt_ks(j:J):j.ks.length≤wt j:=by have:=Ql0 j.ks;rw[Qi6];omega
theorem wt_l(j:J):j.l.length≤wt j:=by have:=QlN j.l;rw[Qi6];omega
theorem wt_mem{j y:J}(h:y∈j.l):wt y<wt j:=by have:=QlM h;rw[Qi6 j];omega
def OrdOK:Nat→J→Prop
 |0,_=>False
 |n+1,j=>(j.k=5→j.ks.length=j.l.length∧j.ks.Nodup)∧(j.k≠5→j.ks= [])∧(j.k≠4→j.k≠5→j.l= [])∧∀y∈j.l,OrdOK n y
theorem OrdOK.succ:∀ {n:Nat} {j:J},OrdOK n j→OrdOK (n+1) j
 |0,_,h=>h.elim
 |n+1,j,⟨h1,h2,h3,h4⟩=>⟨h1,h2,h3,fun y hy=>(h4 y hy).succ⟩
theorem OrdOK.mono{n m:Nat}{j:J}(h:OrdOK n j)(hm:n≤m):OrdOK m j:=by
 induction hm with
 |refl=>exact h
 |step _ ih=>exact ih.succ
abbrev OrdE(j:J):Prop:=∃n,OrdOK n j
theorem Qjr:∀ {l:List J},(∀y∈l,OrdE y)→∃n,∀y∈l,OrdOK n y
 | [],_=>⟨0,by simp⟩
 |a::l,h=>by
  obtain⟨n,hn⟩:=h a (by simp)
  obtain⟨m,hm⟩:=Qjr (l:=l) fun y hy=>h y (List.mem_cons_of_mem _ hy)
  refine⟨max n m,fun y hy=> ?_⟩
  rcases List.mem_cons.1 hy with rfl|hy
  ·exact hn.mono (Nat.le_max_left _ _)
  ·exact(hm y hy).mono (Nat.le_max_right _ _)
theorem Qd0{k n:Int}{t:Tx}(h:k≠5):OrdE (.mk k n t [] []):=
 ⟨1,fun e=>absurd e h,fun _=>rfl,fun _ _=>rfl,fun y hy=>by cases hy⟩
theorem Qfs(k n:Int)(t:Tx):wt (.mk k n t [] [])=1+t.length:=by rw[Qi6];simp[J.t,J.ks,J.l,wts]
theorem Qgn{s:Tx}:∀ {f:Nat} {acc:Tx} {p q:Nat} {t:Tx},QcI s f acc p= .ok (t,q)→t.length+4*p≤acc.length+4*q
 |0,_,_,_,_,h=>by cases h
 |f+1,acc,p,q,t,h=>by
  unfold QcI at h
  split at h
  ·cases h
  ·split at h
   ·cases h
   ·split at h
    ·cases h;omega
    ·split at h
     ·split at h
      ·cases h
      ·rename_i n r he
       have:=Qgn h
       have:=(Qnf he).1
       have:(QcP n).length≤4:=by unfold QcP;(repeat' split)<;>simp
       rw[List.length_append]at*
       omega
     ·have:=Qgn h
      rw[List.length_append,List.length_singleton]at this
      omega
theorem Qj6{s:Tx}{p q:Nat}{t:Tx}(h:Qb6 s p= .ok (t,q)):t.length+4*p+4≤4*q:=by
 unfold Qb6 at h
 split at h
 ·cases h
 ·rename_i r hw
  have:=(QdE hw).1
  have:=Qgn h
  simp only[List.length_nil]at this
  omega
theorem Qlj{s:Tx}{p q:Nat}{j:J}(h:QcS s p= .ok (j,q)):OrdE j∧wt j=1:=by
 unfold QcS at h
 simp only at h
 generalize(if nx s p=45 then p+1 else p)=f at h
 split at h
 ·split at h
  ·cases h
  ·split at h
   ·cases h
   ·cases h;exact⟨Qd0 (by decide),Qfs _ _ _⟩
 ·cases h
theorem all_ord(s:Tx):∀f:Nat,(∀deep p j q,Qbk s f deep p= .ok (j,q)→OrdE j∧wt j+8*p≤8*q)∧
  (∀deep first acc p l q,Qez s f deep first acc p= .ok (l,q)→(∀y∈acc,OrdE y)→(∀y∈l,OrdE y)∧wts l+8*p+8≤wts acc+8*q)∧
  (∀deep first ks acc p k l q,Qbm s f deep first ks acc p= .ok (k,l,q)→ks.length=acc.length→ks.Nodup→(∀y∈acc,OrdE y)→k.length=l.length∧k.Nodup∧(∀y∈l,OrdE y)∧wts l+(k.map fun k=>k.length+1).sum+8*p+8≤wts acc+(ks.map fun k=>k.length+1).sum+8*q):=by
 intro f
 induction f with
 |zero=>
  refine⟨fun _ _ _ _ h=> ?_,fun _ _ _ _ _ _ h=> ?_,fun _ _ _ _ _ _ _ _ h=> ?_⟩
  ·unfold Qbk at h;cases h
  ·unfold Qez at h;cases h
  ·unfold Qbm at h;cases h
 |succ f ih=>
  refine⟨fun deep p j q h=> ?_,fun deep first acc p l q h hy=> ?_,fun deep first ks acc p k l q h hk hd hy=> ?_⟩
  ·have hpq:=Qfg h
   unfold Qbk at h
   split at h
   ·cases h
   split at h
   ·split at h
    ·cases h
    ·rename_i l q' h1
     obtain⟨r2,r3⟩:=ih.2.1 _ _ _ _ _ _ h1 (by simp)
     cases h
     obtain⟨n,hn⟩:=Qjr r2
     refine⟨⟨n+1,(fun e=>absurd (show(4:Int)=5 from e) (by decide)),fun _=>rfl,fun e=>absurd rfl e,hn⟩, ?_⟩
     rw[Qi6]
     simp only[J.t,J.ks,J.l,List.length_nil,List.map_nil,List.sum_nil,wts]at r3⊢
     omega
   split at h
   ·split at h
    ·cases h
    ·rename_i k l q' h1
     obtain⟨r2,r3,r4,r5⟩:=ih.2.2 _ _ _ _ _ _ _ _ h1 rfl List.nodup_nil (by simp)
     cases h
     obtain⟨n,hn⟩:=Qjr r4
     refine⟨⟨n+1,(fun _=>⟨r2,r3⟩),fun e=>absurd rfl e,fun _ e=>absurd rfl e,hn⟩, ?_⟩
     rw[Qi6]
     simp only[J.t,J.ks,J.l,List.length_nil,List.map_nil,List.sum_nil,wts]at r5⊢
     omega
   split at h
   ·split at h
    ·cases h
    ·rename_i t q' h1
     have:=Qj6 h1
     cases h
     exact⟨Qd0 (by decide),by rw[Qfs];omega⟩
   split at h
   ·split at h
    ·cases h
    ·cases h;exact⟨Qd0 (by decide),by rw[Qfs];simp only[List.length_nil];omega⟩
   split at h
   ·split at h
    ·cases h
    ·cases h;exact⟨Qd0 (by decide),by rw[Qfs];simp only[List.length_nil];omega⟩
   split at h
   ·split at h
    ·cases h
    ·cases h;exact⟨Qd0 (by decide),by rw[Qfs];simp only[List.length_nil];omega⟩
   obtain⟨r1,r2⟩:=Qlj h
   exact⟨r1,by rw[r2];omega⟩
  ·unfold Qez at h
   split at h
   ·cases h
   ·rename_i q' h1
    have:=(Qcq h1).2.2 rfl
    cases h
    exact⟨hy,by omega⟩
   ·rename_i p' h1
    have:=Qcq h1
    split at h
    ·cases h
    ·rename_i j q' h2
     obtain⟨hj,hw⟩:=ih.1 _ _ _ _ h2
     obtain⟨r1,r2⟩:=ih.2.1 _ _ _ _ _ _ h fun y hy'=>by
      rcases List.mem_append.1 hy' with h'|h'
      ·exact hy y h'
      ·rw[List.mem_singleton.1 h'];exact hj
     refine⟨r1, ?_⟩
     rw[Qek]at r2
     simp only[wts]at r2
     omega
  ·unfold Qbm at h
   split at h
   ·cases h
   ·rename_i q' h1
    have:=(Qcq h1).2.2 rfl
    cases h
    exact⟨hk,hd,hy,by omega⟩
   ·rename_i p' h1
    have hm:=Qcq h1
    split at h
    ·cases h
    ·rename_i k' q' h2
     have ht:=Qj6 h2
     split at h
     ·cases h
     ·rename_i hkc
      split at h
      ·cases h
      ·rename_i r h3
       have hw:=QdE h3
       split at h
       ·cases h
       ·rename_i j z h4
        have b1:=Qa7 s q'
        have b2:=Qa7 s r
        obtain⟨hj,hjw⟩:=ih.1 _ _ _ _ h4
        obtain⟨r1,r2,r3,r4⟩:=ih.2.2 _ _ _ _ _ _ _ _ h (by simp[hk]) (by
         refine List.nodup_append.2 ⟨hd,by simp,fun a ha b hb e=> ?_⟩
         have:b=k':=by simpa using hb
         subst this;subst e
         exact hkc (by simpa using ha)) fun y hy'=>by
          rcases List.mem_append.1 hy' with h'|h'
          ·exact hy y h'
          ·rw[List.mem_singleton.1 h'];exact hj
        refine⟨r1,r2,r3, ?_⟩
        rw[Qek]at r4
        simp only[wts,List.map_append,List.map_cons,List.map_nil,List.sum_append,List.sum_cons,List.sum_nil]at r4
        omega
theorem QlP{s:Tx}{f deep p q:Nat}{j:J}(h:Qbk s f deep p= .ok (j,q)):OrdE j∧wt j+8*p≤8*q:=(all_ord s f).1 _ _ _ _ h
variable {pr:FuncId→Option Qba} {pP:FuncId→Option Qeh} [POK pr] [PPOK pr pP]
theorem trey(H:Qab)(o:AObj):∃K:AObj→AObj→Qab,(∀a b,K a b=H++ [o,a,b])∧(∀a b,(K a b)[H.length]? =some o)∧(∀a b,(K a b)[H.length+1]? =some a)∧(∀a b,(K a b)[H.length+2]? =some b)∧
  (∀a b a',(K a b).set (H.length+1) a'=K a' b)∧(∀a b b',(K a b).set (H.length+2) b'=K a b'):=by
 refine⟨fun a b=>H++ [o,a,b],fun _ _=>rfl,fun a b=> ?_,fun a b=> ?_,fun a b=> ?_,fun a b a'=> ?_,fun a b b'=> ?_⟩
 ·simp only;rw[List.getElem?_append_right (by simp)];simp
 ·simp only;rw[List.getElem?_append_right (by simp)];simp
 ·simp only;rw[List.getElem?_append_right (by simp)];simp
 ·simp only;rw[List.set_append_right _ _ (by simp)];simp
 ·simp only;rw[List.set_append_right _ _ (by simp)];simp
abbrev zO:AObj:= .cells [intD 0,intD 0,.d (.str []),.fslice [],.fslice []]
abbrev nO(n:Int):AObj:= .cells [intD n]
abbrev jO(j:J):AObj:= .cells (jC j)
theorem four(H:Qab):∃K:AObj→AObj→AObj→AObj→Qab,(∀a b c o,K a b c o=H++ [a,b,c,o])∧(∀a b c o,(K a b c o)[H.length]? =some a)∧(∀a b c o,(K a b c o)[H.length+1]? =some b)∧(∀a b c o,(K a b c o)[H.length+2]? =some c)∧(∀a b c o,(K a b c o)[H.length+3]? =some o)∧
  (∀a b c o a',(K a b c o).set H.length a'=K a' b c o)∧(∀a b c o a',(K a b c o).set (H.length+1) a'=K a a' c o)∧(∀a b c o a',(K a b c o).set (H.length+2) a'=K a b a' o)∧(∀a b c o a',(K a b c o).set (H.length+3) a'=K a b c a'):=by
 refine⟨fun a b c o=>H++ [a,b,c,o],fun _ _ _ _=>rfl, ?_, ?_, ?_, ?_, ?_, ?_, ?_, ?_⟩<;>intros<;>simp only
 ·rw[List.getElem?_append_right (by omega)];simp
 ·rw[List.getElem?_append_right (by omega)];simp
 ·rw[List.getElem?_append_right (by omega)];simp
 ·rw[List.getElem?_append_right (by omega)];simp
 ·rw[List.set_append_right _ _ (by omega)];simp
 ·rw[List.set_append_right _ _ (by omega)];simp
 ·rw[List.set_append_right _ _ (by omega)];simp
 ·rw[List.set_append_right _ _ (by omega)];simp
theorem three(H:Qab):∃K:AObj→AObj→AObj→Qab,(∀a b c,K a b c=H++ [a,b,c])∧(∀a b c,(K a b c)[H.length]? =some a)∧(∀a b c,(K a b c)[H.length+1]? =some b)∧(∀a b c,(K a b c)[H.length+2]? =some c)∧
  (∀a b c a',(K a b c).set H.length a'=K a' b c)∧(∀a b c a',(K a b c).set (H.length+1) a'=K a a' c)∧(∀a b c a',(K a b c).set (H.length+2) a'=K a b a'):=by
 refine⟨fun a b c=>H++ [a,b,c],fun _ _ _=>rfl, ?_, ?_, ?_, ?_, ?_, ?_⟩<;>intros<;>simp only
 ·rw[List.getElem?_append_right (by omega)];simp
 ·rw[List.getElem?_append_right (by omega)];simp
 ·rw[List.getElem?_append_right (by omega)];simp
 ·rw[List.set_append_right _ _ (by omega)];simp
 ·rw[List.set_append_right _ _ (by omega)];simp
 ·rw[List.set_append_right _ _ (by omega)];simp
theorem QlR{H:Qab}{o:AObj}{K:AObj→AObj→Qab}(kk:∀a b,K a b=H++ [o,a,b])(a:AObj)(M:List AObj):∃G:AObj→AObj→Qab,(∀b q,K a b++M++ [q]=G b q)∧(∀b,(K a b++M).length=H.length+3+M.length)∧(∀b q,(G b q)[H.length+3+M.length]? =some q)∧(∀b q,(G b q)[H.length+2]? =some b)∧(∀b q b',(G b q).set (H.length+2) b'=G b' q)∧(∀b q q',(G b q).set (H.length+3+M.length) q'=G b q'):=by
 have hl:∀b,(K a b++M).length=H.length+3+M.length:=fun b=>by rw[kk];simp;omega
 refine⟨fun b q=>K a b++M++ [q],fun _ _=>rfl,hl,fun b q=> ?_,fun b q=> ?_,fun b q b'=> ?_,fun b q q'=> ?_⟩
 ·simp only;rw[←hl b];simp
 ·simp only[kk,List.append_assoc];rw[List.getElem?_append_right (by omega)];simp
 ·simp only[kk,List.append_assoc];rw[List.set_append_right _ _ (by omega)];simp
 ·simp only;rw[←hl b,List.set_append_right _ _ (by omega)];simp
abbrev outO(k n:Int)(t:Tx)(ks:List Tx)(l:List J):AObj:= .cells [.d (.int .i64 k),.d (.int .i64 n),.d (.str t),.fslice (ks.map D.str),.fslice (l.map J.d)]
abbrev outT(k n:Int)(t:Tx)(ks:List Tx)(l:List J):AObj:= .cells [.d (.int .i64 k),.d (.int .i64 n),.d (.str t),.fslice (ks.map D.str),.d (.slice (l.map J.d))]
abbrev outL(k n:Int)(t:Tx)(l:List J):AObj:= .cells [.d (.int .i64 k),.d (.int .i64 n),.d (.str t),.fslice [],.fslice (l.map J.d)]
abbrev outLT(k n:Int)(t:Tx)(l:List J):AObj:= .cells [.d (.int .i64 k),.d (.int .i64 n),.d (.str t),.fslice [],.d (.slice (l.map J.d))]
theorem QhD{α β:Type}(f:α→β){l:List α}{i:Nat}{a:α}(h:l[i]? =some a):(l.take i).map f++ [f a]=(l.take (i+1)).map f:=by
 rw[List.take_add_one,h];simp
theorem Qeu:∀(n:Nat) (lim:Nat) (H:Qab) (j:J),OrdOK n j→wt j≤100000000000→Ev (QaE code pr) 95 lim [.d j.d] H (.d (QaD j).d) H
 |0,_,_,_,h,_=>h.elim
 |n+1,lim,H,j,⟨hm,_,_,hy⟩,hwt=>by
  have hk:=wt_ks j
  have hl:=wt_l j
  have hyw:∀y∈j.l,wt y≤100000000000:=fun y hy=>by have:=wt_mem hy;omega
  refine Fn.ev ?_
  refine QbU (pn rfl) rfl (show code 95=some c95 from rfl) rfl ?_;simp only[List.length_cons,List.length_nil,List.cons_append,List.nil_append,simprocAttr]
  obtain⟨K,kk,k0,k1,k2,k3,k4⟩:=trey H (.cells (jC j))
  have hjd:=jd j
  have a1:(H++ [AObj.cells (jC j)]).length=H.length+1:=by simp
  have a2:∀o,(H++ [AObj.cells (jC j)]++ [o]).length=H.length+2:=fun o=>by simp
  have a3:∀o o',(H++ [AObj.cells (jC j)]++ [o]++ [o'])=K o o':=fun o o'=>by rw[kk];simp
  have a4:∀o,(H++ [AObj.cells (jC j)]++ [o])[H.length]? =some (.cells (jC j)):=fun o=>by simp
  have hll1:H.length≤H.length+1:=by omega
  have hll2:H.length≤H.length+2:=by omega
  rw[Qmw]
  (iterate 4 refine w_s (j_ hjd (j_ a1 (j_ a2 (j_ a3 (j_ a4 (j_ k0 (j_ k1 (j_ k2 (j_ k3 (j_ k4 hll2)))))))))) ?_)
  by_cases h5:j.k=5
  ·rw[if_pos h5]
   have c5:(j.k==5)=true:=by simpa using h5
   obtain⟨hkl,hnd⟩:=hm h5
   refine w_r (j_ k0 c5) ?_
   have hpl:=Qmq (pr:=pr) H.length (K (outO 0 0 [] [] []) (outO j.k j.n j.t [] [])) j.ks (by omega) hnd
   obtain⟨P,hP⟩:∃P,Qbi j.ks=P:=⟨_,rfl⟩
   have hPl:=QcU j.ks
   have hPm:∀i∈P,i<j.ks.length:=fun i hi=>QiX (hP▸hi)
   rw[hP]at hpl hPl
   simp only[outO,List.map_nil]at hpl
   rw[hP]
   refine w_1 hpl (j_ k0 (@List.length_map.{0,0})) ?_
   refine w_r trivial ?_
   refine W_lp (fun k st=>∃i:Nat,i≤P.length∧k=P.length-i∧∃x:Nat→AV,st=⟨[x 0,x 1,x 2,x 3,.ptr (H.length+1) 0,.ptr H.length 0,.ptr (H.length+2) 0,.d (.slice (P.map fun(i:Nat)=>D.int .i64 (i:Int))),intD P.length,intD i,x 10,x 11,x 12,x 13,x 14,x 15,x 16,x 17],K (outO 0 0 [] [] []) (outO j.k j.n j.t ((P.take i).map fun i=>j.ks.getD i []) ((P.take i).map fun i=>(j.l.map QaD).getD i J.zero))⟩) ?_ _ _ ⟨0,Nat.zero_le _,rfl,QaC _ _ _ rfl⟩
   rintro k _ ⟨i,hi,rfl,x,rfl⟩
   by_cases t0:i<P.length
   ·have f1:((i:Int)<(P.length:Int))=True:=eq_true (by omega)
    have w1:IntKind.i64.wrap ((i:Int)+1)=((i+1:Nat):Int):=QkS (by omega)
    obtain⟨p,hp⟩:∃p,P[i]? =some p:=⟨_,List.getElem?_eq_getElem t0⟩
    have hpk:=hPm p (List.mem_of_getElem? hp)
    obtain⟨s,hs⟩:∃s,j.ks[p]? =some s:=⟨_,List.getElem?_eq_getElem hpk⟩
    obtain⟨y,hy'⟩:∃y,j.l[p]? =some y:=⟨_,List.getElem?_eq_getElem (by omega)⟩
    have hyd:=jd y
    have hod:=jd (QaD y)
    have e1:=QhD (fun i=>j.ks.getD i []) hp
    have e2:=QhD (fun i=>(j.l.map QaD).getD i J.zero) hp
    have g1:j.ks.getD p []=s:=by simp[List.getD,hs]
    have g2:(j.l.map QaD).getD p J.zero=QaD y:=by simp[List.getD,hy']
    rw[g1]at e1
    rw[g2]at e2
    have ho:=fun M=>Qeu n H.length M y (hy y (List.mem_of_getElem? hy')) (hyw y (List.mem_of_getElem? hy'))
    simp only[hyd,hod]at ho
    have n1:((P.take i).map fun i=>j.ks.getD i []).length=i:=by simp;omega
    have n2:((P.take i).map fun i=>(j.l.map QaD).getD i J.zero).length=i:=by simp;omega
    generalize((P.take i).map fun i=>j.ks.getD i [])=A at*
    generalize((P.take i).map fun i=>(j.l.map QaD).getD i J.zero)=B at*
    have m1:A.map D.str++ [D.str s]=(A++ [s]).map D.str:=by simp
    have m2:B.map J.d++ [D.agg [.int .i64 (QaD y).k,.int .i64 (QaD y).n,.str (QaD y).t,sD (QaD y).ks,jsD (QaD y).l]]=(B++ [QaD y]).map J.d:=by simp[hod]
    have z1:=headS A
    have z2:=headJ B
    have b1:(i+1)*17≤70368744177664:=by omega
    have b2:(i+1)*85≤70368744177664:=by omega
    have hc:∀s:Tx,(D.str s).cells= [D.str s]:=fun _=>rfl
    (iterate 10 refine w_s (j_ f1 hp) ?_)
    (apply W_rg;focus(intro k;simp(maxSteps:=100000000) only[zz,zd,simprocAttr,k0,k2,k4,hs,hc,z1,n1,b1,m1,e1,List.length_map,hll2];(first|done|with_reducible exact rfl)))<;>(try simp only[zp,simprocAttr])
    obtain⟨A',hA⟩:∃A',((P.take (i+1)).map fun i=>j.ks.getD i [])=A':=⟨_,rfl⟩
    rw[hA]
    refine w_2 ((ho (K (outO 0 0 [] [] []) (outO j.k j.n j.t A' B)))) ((ho (K (outO 0 0 [] [] []) (outT j.k j.n j.t A' B)))) (j_ k0 (j_ k2 (j_ k4 (j_ hy' (j_ hyd (j_ z2 (j_ n2 (j_ b2 (j_ m2 (j_ e2 (j_ (@List.length_map.{0,0}) hll2))))))))))) ?_
    refine w_r w1 ?_
    exact⟨P.length-(i+1),by omega,i+1,t0,rfl,Qe4 (by first|rw[hA,e2]|rw[hA]) rfl⟩
   ·obtain rfl:i=P.length:=by omega
    have f1:((P.length:Int)<(P.length:Int))=False:=eq_false (by omega)
    rw[List.take_length]
    refine w_r (j_ f1 (j_ k1 (j_ k2 (j_ k3 hll1)))) ?_
    refine Qah (vs:= [.d (.agg [.int .i64 j.k,.int .i64 j.n,.str j.t,sD (P.map fun i=>j.ks.getD i []),jsD (P.map fun i=>(j.l.map QaD).getD i J.zero)])]) ?_ rfl ⟨by rw[jd];rfl,rfl⟩
    simp only[Qbw,zz,simprocAttr,k1]
  ·rw[if_neg h5]
   have c5:(j.k==5)=false:=by simpa using h5
   refine w_r (j_ k0 (j_ c5 (@List.length_map.{0,0}))) ?_
   refine W_lp (fun k st=>∃(i:Nat) (M:List AObj),i≤j.l.length∧k=j.l.length-i∧∃x:Nat→AV,st=⟨[x 0,x 1,x 2,x 3,.ptr (H.length+1) 0,.ptr H.length 0,.ptr (H.length+2) 0,x 7,x 8,x 9,x 10,.d (jsD j.l),intD j.l.length,intD i,x 14,x 15,x 16,x 17],K (outO 0 0 [] [] []) (outL j.k j.n j.t ((j.l.take i).map QaD))++M⟩) ?_ _ _ ⟨0,[],Nat.zero_le _,rfl,Qe4 (by rw[List.append_nil];rfl) rfl⟩
   rintro k _ ⟨i,M,hi,rfl,x,rfl⟩
   by_cases t0:i<j.l.length
   ·have f1:((i:Int)<(j.l.length:Int))=True:=eq_true (by omega)
    have w1:IntKind.i64.wrap ((i:Int)+1)=((i+1:Nat):Int):=QkS (by omega)
    obtain⟨y,hy'⟩:∃y,j.l[i]? =some y:=⟨_,List.getElem?_eq_getElem t0⟩
    have hyd:=jd y
    have hod:=jd (QaD y)
    have e2:=QhD QaD hy'
    have ho:=fun M=>Qeu n H.length M y (hy y (List.mem_of_getElem? hy')) (hyw y (List.mem_of_getElem? hy'))
    simp only[hyd,hod]at ho
    have n2:((j.l.take i).map QaD).length=i:=by simp;omega
    generalize(j.l.take i).map QaD=B at*
    obtain⟨G,gg,gl,g0,g2,g3,g4⟩:=QlR kk (outO 0 0 [] [] []) M
    have hll3:H.length≤H.length+3+M.length:=by omega
    have z2:=headJ B
    have b2:(i+1)*85≤70368744177664:=by omega
    have m2:B.map J.d++ [D.agg [.int .i64 (QaD y).k,.int .i64 (QaD y).n,.str (QaD y).t,sD (QaD y).ks,jsD (QaD y).l]]=(B++ [QaD y]).map J.d:=by simp[hod]
    (iterate 9 refine w_s (j_ f1 (j_ hy' (j_ hyd (j_ gg (j_ gl (j_ g0 (j_ g4 hll3))))))) ?_)
    refine w_2 ((ho (G (outL j.k j.n j.t B) (.cells (jC y))))) ((ho (G (outLT j.k j.n j.t B) (.cells (jC y))))) (j_ g0 (j_ g2 (j_ g3 (j_ z2 (j_ n2 (j_ b2 (j_ m2 (j_ (@List.length_map.{0,0}) hll2)))))))) ?_
    refine w_r w1 ?_
    exact⟨j.l.length-(i+1),by omega,i+1,M++ [.cells (jC y)],t0,rfl,Qe4 (by rw[←List.append_assoc,gg,←e2]) rfl⟩
   ·obtain rfl:i=j.l.length:=by omega
    have f1:((j.l.length:Int)<(j.l.length:Int))=False:=eq_false (by omega)
    rw[List.take_length]
    obtain⟨G,h1,h2,h3⟩:∃G:AObj→Qab,(∀a,K a (outL j.k j.n j.t (j.l.map QaD))++M=G a)∧(∀a,(G a)[H.length+2]? =some (outL j.k j.n j.t (j.l.map QaD)))∧(∀a a',(G a).set (H.length+1) a'=G a')∧(∀a,(G a)[H.length+1]? =some a):=by
     refine⟨fun a=>K a (outL j.k j.n j.t (j.l.map QaD))++M,fun _=>rfl,fun a=> ?_,fun a a'=> ?_,fun a=> ?_⟩
     ·simp only[kk,List.append_assoc];rw[List.getElem?_append_right (by omega)];simp
     ·simp only[kk,List.append_assoc];rw[List.set_append_right _ _ (by omega)];simp
     ·simp only[kk,List.append_assoc];rw[List.getElem?_append_right (by omega)];simp
    rw[h1]
    obtain⟨h3,h4⟩:=h3
    refine w_r (j_ f1 (j_ h2 (j_ h3 (j_ h4 hll1)))) ?_
    refine Qah (vs:= [.d (.agg [.int .i64 j.k,.int .i64 j.n,.str j.t,sD [],jsD (j.l.map QaD)])]) ?_ rfl ⟨by rw[jd];rfl,rfl⟩
    simp only[Qbw,zz,simprocAttr,h4];rfl
end Go.Proofs.YtfoiaojdnmpgmaaGreatDoor
namespace Go.Proofs.YtfoiaojdnmpgmaaGreatDoor
open Go Go.Abs
theorem Qgp:∀ {xs:List D} {s:Tx},bytesOf xs=some s→xs.length=s.length
 | [],s,h=>by cases h;rfl
 |.int k n::xs,s,h=>by
  cases k with
  |u8=>
   simp only[bytesOf]at h
   split at h
   ·rename_i bs hb;cases h;simp[Qgp hb]
   ·cases h
  |_=>cases h
 |.bool _::_,_,h=>by cases h
 |.str _::_,_,h=>by cases h
 |.nilptr::_,_,h=>by cases h
 |.slice _::_,_,h=>by cases h
 |.agg _::_,_,h=>by cases h
theorem Qgs:∀ {cs:List AV} {s:Tx},AV.bytes cs=some s→cs.length=s.length
 | [],s,h=>by cases h;rfl
 |.d (.int k n)::xs,s,h=>by
  cases k with
  |u8=>
   simp only[AV.bytes]at h
   split at h
   ·rename_i bs hb;cases h;simp[Qgs hb]
   ·cases h
  |_=>cases h
 |.d (.bool _)::_,_,h=>by cases h
 |.d (.str _)::_,_,h=>by cases h
 |.d .nilptr::_,_,h=>by cases h
 |.d (.slice _)::_,_,h=>by cases h
 |.d (.agg _)::_,_,h=>by cases h
 |.undef::_,_,h=>by cases h
 |.fslice _::_,_,h=>by cases h
 |.lit _::_,_,h=>by cases h
 |.ptr _ _::_,_,h=>by cases h
 |.pref _::_,_,h=>by cases h
 |.oslice _ _ _ _ _::_,_,h=>by cases h
 |.agg _::_,_,h=>by cases h
 |.tuple _::_,_,h=>by cases h
 |.mapr _::_,_,h=>by cases h
 |.nilmap::_,_,h=>by cases h
 |.func _ _::_,_,h=>by cases h
 |.nilfunc::_,_,h=>by cases h
 |.iface _ _::_,_,h=>by cases h
 |.niliface::_,_,h=>by cases h
 |.ubool::_,_,h=>by cases h
theorem Qe7{H:Qab}{v:AV}{s:Tx}(h:Qha H v=some s):(∃xs,v= .d (.slice xs)∧bytesOf xs=some s∧xs.length=s.length)∨
  ∃r off cap cs,v= .oslice r off s.length cap 1∧H[r]? =some (.cells cs)∧off+s.length≤cs.length∧AV.bytes ((cs.drop off).take s.length)=some s:=by
 unfold Qha at h
 split at h
 ·rename_i xs;exact .inl ⟨xs,rfl,h,Qgp h⟩
 ·rename_i r off len cap sz
  split at h
  ·rename_i hz
   subst hz
   split at h
   ·rename_i cs hr
    split at h
    ·rename_i hl
     have:=Qgs h
     simp only[List.length_take,List.length_drop]at this
     obtain rfl:len=s.length:=by omega
     exact .inr ⟨r,off,cap,cs,rfl,hr,hl,h⟩
    ·cases h
   ·cases h
  ·cases h
 ·cases h
section
variable {lim:Nat} {H:Qab} {s:Tx} (x:Nat→AV) {v0:AV}
theorem v10_0:V X0 XP lim q10_0 ⟨[v0,x 1,x 2,x 3,x 4,x 5,x 6,x 7,x 8,x 9,x 10,x 11,x 12,x 13,x 14,x 15,x 16,x 17,x 18,x 19,x 20,x 21,x 22,x 23,x 24,x 25,x 26,x 27,x 28,x 29,x 30,x 31,x 32,x 33,x 34,x 35,x 36,x 37,x 38,x 39,x 40,x 41,x 42,x 43,x 44,x 45,x 46,x 47,x 48],H⟩ (fun e st=>e= .normal∧∃x:Nat→AV,st=⟨[v0,x 1,.ptr H.length 0,.ptr (H.length+1) 0,.ptr (H.length+2) 0,x 5,x 6,x 7,x 8,x 9,x 10,x 11,x 12,x 13,x 14,x 15,x 16,x 17,x 18,x 19,x 20,x 21,x 22,x 23,x 24,x 25,x 26,x 27,x 28,x 29,x 30,x 31,x 32,x 33,x 34,x 35,x 36,x 37,x 38,x 39,x 40,x 41,x 42,x 43,x 44,x 45,x 46,x 47,x 48],H++ [zO,nO 0,nO 0]⟩) (fun _=>False):=by
 unfold q10_0
 have a1:(H++ [zO]).length=H.length+1:=by simp
 have a2:(H++ [zO]++ [nO 0]).length=H.length+2:=by simp
 have a3:H++ [zO]++ [nO 0]++ [nO 0]=H++ [zO,nO 0,nO 0]:=by simp
 refine v_r (j_ a1 (j_ a2 a3)) ?_
 exact⟨by first|exact trivial|exact rfl,QaC _ _ _ rfl⟩
theorem v10_1{K:Qab}{n:Nat}(hb:Qha H v0=some s):V X0 XP lim q10_1 ⟨[v0,x 1,.ptr n 0,.ptr (n+1) 0,.ptr (n+2) 0,x 5,x 6,x 7,x 8,x 9,x 10,x 11,x 12,x 13,x 14,x 15,x 16,x 17,x 18,x 19,x 20,x 21,x 22,x 23,x 24,x 25,x 26,x 27,x 28,x 29,x 30,x 31,x 32,x 33,x 34,x 35,x 36,x 37,x 38,x 39,x 40,x 41,x 42,x 43,x 44,x 45,x 46,x 47,x 48],K⟩ (fun e st=>e= .normal∧∃x:Nat→AV,st=⟨[v0,x 1,.ptr n 0,.ptr (n+1) 0,.ptr (n+2) 0,x 5,x 6,x 7,x 8,boolD (decide (16384<s.length)),x 10,x 11,x 12,x 13,x 14,x 15,x 16,x 17,x 18,x 19,x 20,x 21,x 22,x 23,x 24,x 25,x 26,x 27,x 28,x 29,x 30,x 31,x 32,x 33,x 34,x 35,x 36,x 37,x 38,x 39,x 40,x 41,x 42,x 43,x 44,x 45,x 46,x 47,x 48],K⟩) (fun _=>False):=by
 unfold q10_1
 have e:decide ((s.length:Int)>16384)=decide (16384<s.length):=by rw[Bool.eq_iff_iff];simp;omega
 rcases Qe7 hb with⟨xs,rfl,h1,h2⟩|⟨r,off,cap,cs,rfl,h1,h2,h3⟩
 ·refine v_r (j_ h2 e) ?_
  exact⟨by first|exact trivial|exact rfl,QaC _ _ _ rfl⟩
 ·refine v_r e ?_
  exact⟨by first|exact trivial|exact rfl,QaC _ _ _ rfl⟩
theorem v10_2(hl:lim≤H.length):V X0 XP lim q10_2 ⟨[x 0,x 1,.ptr H.length 0,.ptr (H.length+1) 0,.ptr (H.length+2) 0,x 5,x 6,x 7,x 8,x 9,x 10,x 11,x 12,x 13,x 14,x 15,x 16,x 17,x 18,x 19,x 20,x 21,x 22,x 23,x 24,x 25,x 26,x 27,x 28,x 29,x 30,x 31,x 32,x 33,x 34,x 35,x 36,x 37,x 38,x 39,x 40,x 41,x 42,x 43,x 44,x 45,x 46,x 47,x 48],H++ [zO,nO 0,nO 0]⟩ (fun e st=>e= .normal∧∃x:Nat→AV,st=⟨[x 0,x 1,.ptr H.length 0,.ptr (H.length+1) 0,.ptr (H.length+2) 0,x 5,x 6,x 7,x 8,x 9,x 10,x 11,x 12,x 13,x 14,x 15,x 16,x 17,x 18,x 19,x 20,x 21,x 22,x 23,x 24,x 25,x 26,x 27,x 28,x 29,x 30,x 31,x 32,x 33,x 34,x 35,x 36,x 37,x 38,x 39,x 40,x 41,x 42,x 43,x 44,x 45,x 46,x 47,x 48],H++ [zO,nO 13,nO 16384]⟩) (fun _=>False):=by
 unfold q10_2
 obtain⟨K,kk,g1,g2,g3,s1,s2,s3⟩:=three H
 have l1:lim≤H.length+1:=by omega
 have l2:lim≤H.length+2:=by omega
 rw[←kk,←kk]
 refine v_r (j_ g1 (j_ g2 (j_ g3 (j_ s1 (j_ s2 (j_ s3 (j_ hl (j_ l1 l2)))))))) ?_
 exact⟨by first|exact trivial|exact rfl,Qe4 rfl rfl⟩
theorem v10_3(hb:Qha H v0=some s):V X0 XP lim q10_3 ⟨[v0,x 1,.ptr H.length 0,.ptr (H.length+1) 0,.ptr (H.length+2) 0,x 5,x 6,x 7,x 8,x 9,x 10,x 11,x 12,x 13,x 14,x 15,x 16,x 17,x 18,x 19,x 20,x 21,x 22,x 23,x 24,x 25,x 26,x 27,x 28,x 29,x 30,x 31,x 32,x 33,x 34,x 35,x 36,x 37,x 38,x 39,x 40,x 41,x 42,x 43,x 44,x 45,x 46,x 47,x 48],H++ [zO,nO 0,nO 0]⟩ (fun e st=>e= .normal∧∃x:Nat→AV,st=⟨[x 0,x 1,.ptr H.length 0,.ptr (H.length+1) 0,.ptr (H.length+2) 0,.ptr (H.length+3) 0,x 6,x 7,x 8,x 9,x 10,x 11,x 12,x 13,x 14,x 15,x 16,x 17,x 18,x 19,x 20,x 21,x 22,x 23,x 24,x 25,x 26,x 27,x 28,x 29,x 30,x 31,x 32,x 33,x 34,x 35,x 36,x 37,x 38,x 39,x 40,x 41,x 42,x 43,x 44,x 45,x 46,x 47,x 48],H++ [zO,nO 0,nO 0,rdO s (0:Nat)]⟩) (fun _=>False):=by
 unfold q10_3
 have a1:(H++ [zO,nO 0,nO 0]).length=H.length+3:=by simp
 have a2:∀o,H++ [zO,nO 0,nO 0]++ [o]=H++ [zO,nO 0,nO 0,o]:=fun o=>by simp
 rcases Qe7 hb with⟨xs,rfl,h1,h2⟩|⟨r,off,cap,cs,rfl,h1,h2,h3⟩
 ·refine v_r (j_ h1 (j_ a1 a2)) ?_
  exact⟨by first|exact trivial|exact rfl,QaC _ _ _ rfl⟩
 ·have hr:(H++ [zO,nO 0,nO 0])[r]? =some (.cells cs):=by
   rw[List.getElem?_append_left (List.getElem?_eq_some_iff.1 h1).1];exact h1
  refine v_r (j_ h2 (j_ h3 (j_ hr (j_ a1 a2)))) ?_
  exact⟨by first|exact trivial|exact rfl,QaC _ _ _ rfl⟩
theorem v10_4(hs:s.length≤16384):V X0 XP lim q10_4 ⟨[x 0,x 1,.ptr H.length 0,.ptr (H.length+1) 0,.ptr (H.length+2) 0,.ptr (H.length+3) 0,x 6,x 7,x 8,x 9,x 10,x 11,x 12,x 13,x 14,x 15,x 16,x 17,x 18,x 19,x 20,x 21,x 22,x 23,x 24,x 25,x 26,x 27,x 28,x 29,x 30,x 31,x 32,x 33,x 34,x 35,x 36,x 37,x 38,x 39,x 40,x 41,x 42,x 43,x 44,x 45,x 46,x 47,x 48],H++ [zO,nO 0,nO 0,rdO s (0:Nat)]⟩ (fun e st=>e= .normal∧∃x:Nat→AV,st=⟨[x 0,x 1,.ptr H.length 0,.ptr (H.length+1) 0,.ptr (H.length+2) 0,.ptr (H.length+3) 0,intD (QaV s),x 7,x 8,x 9,x 10,x 11,x 12,x 13,x 14,x 15,x 16,x 17,x 18,x 19,x 20,x 21,x 22,x 23,x 24,x 25,x 26,x 27,x 28,x 29,x 30,x 31,x 32,x 33,x 34,x 35,x 36,x 37,x 38,x 39,x 40,x 41,x 42,x 43,x 44,x 45,x 46,x 47,x 48],H++ [zO,nO 0,nO 0,rdO s (0:Nat)]⟩) (fun _=>False):=by
 unfold q10_4
 obtain⟨K,kk,g1,g2,g3,g4,s1,s2,s3,s4⟩:=four H
 rw[←kk]
 have hb:=Qnr (pr:=QaY) lim (K zO (nO 0) (nO 0) (rdO s (0:Nat))) s (by omega)
 (apply QaP;focus(refine Evl.call (X:=X0) (hb) (Evl.all fun k e1=> ?_);simp(maxSteps:=100000000) only[zz,zd,simprocAttr,g4,e1];(first|done|with_reducible exact rfl)))<;>(try simp only[zp,simprocAttr])
 exact⟨by first|exact trivial|exact rfl,QaC _ _ _ rfl⟩
theorem v10_5{K:Qab}{n:Nat}{b:Int}:V X0 XP lim q10_5 ⟨[x 0,x 1,.ptr n 0,.ptr (n+1) 0,.ptr (n+2) 0,.ptr (n+3) 0,intD b,x 7,x 8,x 9,x 10,x 11,x 12,x 13,x 14,x 15,x 16,x 17,x 18,x 19,x 20,x 21,x 22,x 23,x 24,x 25,x 26,x 27,x 28,x 29,x 30,x 31,x 32,x 33,x 34,x 35,x 36,x 37,x 38,x 39,x 40,x 41,x 42,x 43,x 44,x 45,x 46,x 47,x 48],K⟩ (fun e st=>e= .normal∧∃x:Nat→AV,st=⟨[x 0,x 1,.ptr n 0,.ptr (n+1) 0,.ptr (n+2) 0,.ptr (n+3) 0,intD b,x 7,x 8,x 9,x 10,x 11,x 12,x 13,x 14,x 15,x 16,x 17,x 18,x 19,x 20,boolD (decide (b≥0)),x 22,x 23,x 24,x 25,x 26,x 27,x 28,x 29,x 30,x 31,x 32,x 33,x 34,x 35,x 36,x 37,x 38,x 39,x 40,x 41,x 42,x 43,x 44,x 45,x 46,x 47,x 48],K⟩) (fun _=>False):=by
 unfold q10_5
 refine v_r trivial ?_
 exact⟨by first|exact trivial|exact rfl,QaC _ _ _ rfl⟩
theorem v10_6{b:Int}(hl:lim≤H.length):V X0 XP lim q10_6 ⟨[x 0,x 1,.ptr H.length 0,.ptr (H.length+1) 0,.ptr (H.length+2) 0,.ptr (H.length+3) 0,intD b,x 7,x 8,x 9,x 10,x 11,x 12,x 13,x 14,x 15,x 16,x 17,x 18,x 19,x 20,x 21,x 22,x 23,x 24,x 25,x 26,x 27,x 28,x 29,x 30,x 31,x 32,x 33,x 34,x 35,x 36,x 37,x 38,x 39,x 40,x 41,x 42,x 43,x 44,x 45,x 46,x 47,x 48],H++ [zO,nO 0,nO 0,rdO s (0:Nat)]⟩ (fun e st=>e= .normal∧∃x:Nat→AV,st=⟨[x 0,x 1,.ptr H.length 0,.ptr (H.length+1) 0,.ptr (H.length+2) 0,x 5,x 6,x 7,x 8,x 9,x 10,x 11,x 12,x 13,x 14,x 15,x 16,x 17,x 18,x 19,x 20,x 21,x 22,x 23,x 24,x 25,x 26,x 27,x 28,x 29,x 30,x 31,x 32,x 33,x 34,x 35,x 36,x 37,x 38,x 39,x 40,x 41,x 42,x 43,x 44,x 45,x 46,x 47,x 48],H++ [zO,nO 10,nO b,rdO s (0:Nat)]⟩) (fun _=>False):=by
 unfold q10_6
 obtain⟨K,kk,g1,g2,g3,g4,s1,s2,s3,s4⟩:=four H
 have l1:lim≤H.length+1:=by omega
 have l2:lim≤H.length+2:=by omega
 rw[←kk,←kk]
 refine v_r (j_ g1 (j_ g2 (j_ g3 (j_ s1 (j_ s2 (j_ s3 (j_ hl (j_ l1 l2)))))))) ?_
 exact⟨by first|exact trivial|exact rfl,Qe4 rfl rfl⟩
theorem v10_8(hl:lim≤H.length+3)(hs:s.length≤16384):V X0 XP lim q10_8 ⟨[x 0,x 1,.ptr H.length 0,.ptr (H.length+1) 0,.ptr (H.length+2) 0,.ptr (H.length+3) 0,x 6,x 7,x 8,x 9,x 10,x 11,x 12,x 13,x 14,x 15,x 16,x 17,x 18,x 19,x 20,x 21,x 22,x 23,x 24,x 25,x 26,x 27,x 28,x 29,x 30,x 31,x 32,x 33,x 34,x 35,x 36,x 37,x 38,x 39,x 40,x 41,x 42,x 43,x 44,x 45,x 46,x 47,x 48],H++ [zO,nO 0,nO 0,rdO s (0:Nat)]⟩ (fun e st=>e= .normal∧∃x:Nat→AV,st=⟨[x 0,x 1,.ptr H.length 0,.ptr (H.length+1) 0,.ptr (H.length+2) 0,.ptr (H.length+3) 0,x 6,x 7,x 8,x 9,x 10,x 11,x 12,x 13,x 14,x 15,x 16,x 17,x 18,x 19,x 20,x 21,x 22,x 23,x 24,x 25,x 26,x 27,x 28,x 29,x 30,x 31,x 32,x 33,x 34,x 35,x 36,x 37,x 38,x 39,x 40,x 41,x 42,x 43,x 44,x 45,x 46,x 47,x 48],H++ [zO,nO 0,nO 0,rdO s (Qar s 0)]⟩) (fun _=>False):=by
 unfold q10_8
 obtain⟨K,kk,g1,g2,g3,g4,s1,s2,s3,s4⟩:=four H
 rw[←kk,←kk]
 have hb:=QcK (pr:=QaY) lim (K zO (nO 0) (nO 0) (rdO s (0:Nat))) (H.length+3) s 0 (g4 _ _ _ _) hl (Nat.zero_le _) hs
 rw[s4]at hb
 (apply QaP;focus(refine Evl.call (X:=X0) (hb) (Evl.all fun k e1=> ?_);simp(maxSteps:=100000000) only[zz,zd,simprocAttr,e1];(first|done|with_reducible exact rfl)))<;>(try simp only[zp,simprocAttr])
 exact⟨by first|exact trivial|exact rfl,QaC _ _ _ rfl⟩
theorem v10_9{j:J}{p q:Nat}(hl:lim≤H.length)(hs:s.length≤16384)(hp:p≤s.length)(hv:Qbk s (2*s.length+3) 1 p= .ok (j,q)):V X0 XP lim q10_9 ⟨[x 0,x 1,.ptr H.length 0,.ptr (H.length+1) 0,.ptr (H.length+2) 0,.ptr (H.length+3) 0,x 6,x 7,x 8,x 9,x 10,x 11,x 12,x 13,x 14,x 15,x 16,x 17,x 18,x 19,x 20,x 21,x 22,x 23,x 24,x 25,x 26,x 27,x 28,x 29,x 30,x 31,x 32,x 33,x 34,x 35,x 36,x 37,x 38,x 39,x 40,x 41,x 42,x 43,x 44,x 45,x 46,x 47,x 48],H++ [zO,nO 0,nO 0,rdO s p]⟩ (fun e st=>e= .normal∧∃x:Nat→AV,st=⟨[x 0,x 1,.ptr H.length 0,.ptr (H.length+1) 0,.ptr (H.length+2) 0,.ptr (H.length+3) 0,x 6,x 7,x 8,x 9,x 10,x 11,x 12,x 13,x 14,x 15,x 16,x 17,x 18,x 19,x 20,x 21,x 22,x 23,x 24,x 25,x 26,x 27,x 28,x 29,x 30,x 31,x 32,x 33,x 34,x 35,x 36,x 37,x 38,x 39,x 40,x 41,x 42,x 43,x 44,x 45,x 46,x 47,x 48],H++ [jO j,nO 0,nO 0,rdO s q]⟩) (fun _=>False):=by
 unfold q10_9
 obtain⟨K,kk,g1,g2,g3,g4,s1,s2,s3,s4⟩:=four H
 rw[←kk,←kk]
 have he:=(QhW (2*s.length+3)) lim (K zO (nO 0) (nO 0) (rdO s p)) (H.length+3) s p 1 (g4 _ _ _ _) (by omega) hs hp (by omega) (by omega)
 have ev:Ev X0 118 lim [.ptr (H.length+3) 0,intD 1] (K zO (nO 0) (nO 0) (rdO s p)) _ _:=he.okJ hv
 rw[s4,jd]at ev
 (apply QaP;focus(refine Evl.call (X:=X0) (ev) (Evl.all fun k e1=> ?_);simp(maxSteps:=100000000) only[zz,zd,simprocAttr,g1,s1,hl,e1];(first|done|with_reducible exact rfl)))<;>(try simp only[zp,simprocAttr])
 exact⟨by first|exact trivial|exact rfl,QaC _ _ _ rfl⟩
theorem v10_10{a b c:AObj}{p:Nat}(hl:lim≤H.length+3)(hs:s.length≤16384)(hp:p≤s.length):V X0 XP lim Qmk ⟨[x 0,x 1,.ptr H.length 0,.ptr (H.length+1) 0,.ptr (H.length+2) 0,.ptr (H.length+3) 0,x 6,x 7,x 8,x 9,x 10,x 11,x 12,x 13,x 14,x 15,x 16,x 17,x 18,x 19,x 20,x 21,x 22,x 23,x 24,x 25,x 26,x 27,x 28,x 29,x 30,x 31,x 32,x 33,x 34,x 35,x 36,x 37,x 38,x 39,x 40,x 41,x 42,x 43,x 44,x 45,x 46,x 47,x 48],H++ [a,b,c,rdO s p]⟩ (fun e st=>e= .normal∧∃x:Nat→AV,st=⟨[x 0,x 1,.ptr H.length 0,.ptr (H.length+1) 0,.ptr (H.length+2) 0,.ptr (H.length+3) 0,x 6,x 7,x 8,x 9,x 10,x 11,x 12,x 13,x 14,x 15,x 16,x 17,x 18,x 19,x 20,x 21,x 22,x 23,x 24,x 25,x 26,x 27,x 28,x 29,x 30,x 31,x 32,x 33,x 34,x 35,x 36,x 37,x 38,x 39,x 40,x 41,x 42,x 43,x 44,x 45,x 46,x 47,x 48],H++ [a,b,c,rdO s (Qar s p)]⟩) (fun _=>False):=by
 unfold Qmk
 obtain⟨K,kk,g1,g2,g3,g4,s1,s2,s3,s4⟩:=four H
 rw[←kk,←kk]
 have hb:=QcK (pr:=QaY) lim (K a b c (rdO s p)) (H.length+3) s p (g4 _ _ _ _) hl hp hs
 rw[s4]at hb
 (apply QaP;focus(refine Evl.call (X:=X0) (hb) (Evl.all fun k e1=> ?_);simp(maxSteps:=100000000) only[zz,zd,simprocAttr,e1];(first|done|with_reducible exact rfl)))<;>(try simp only[zp,simprocAttr])
 exact⟨by first|exact trivial|exact rfl,QaC _ _ _ rfl⟩
theorem v10_11{a b c:AObj}{p:Nat}:V X0 XP lim Qmj ⟨[x 0,x 1,.ptr H.length 0,.ptr (H.length+1) 0,.ptr (H.length+2) 0,.ptr (H.length+3) 0,x 6,x 7,x 8,x 9,x 10,x 11,x 12,x 13,x 14,x 15,x 16,x 17,x 18,x 19,x 20,x 21,x 22,x 23,x 24,x 25,x 26,x 27,x 28,x 29,x 30,x 31,x 32,x 33,x 34,x 35,x 36,x 37,x 38,x 39,x 40,x 41,x 42,x 43,x 44,x 45,x 46,x 47,x 48],H++ [a,b,c,rdO s p]⟩ (fun e st=>e= .normal∧∃x:Nat→AV,st=⟨[x 0,x 1,.ptr H.length 0,.ptr (H.length+1) 0,.ptr (H.length+2) 0,.ptr (H.length+3) 0,x 6,x 7,x 8,x 9,x 10,x 11,x 12,x 13,x 14,x 15,x 16,x 17,x 18,x 19,x 20,x 21,x 22,x 23,x 24,x 25,x 26,x 27,x 28,x 29,x 30,x 31,x 32,x 33,x 34,x 35,x 36,x 37,x 38,x 39,boolD (decide (p<s.length)),x 41,x 42,x 43,x 44,x 45,x 46,x 47,x 48],H++ [a,b,c,rdO s p]⟩) (fun _=>False):=by
 unfold Qmj
 obtain⟨K,kk,g1,g2,g3,g4,s1,s2,s3,s4⟩:=four H
 have e:decide ((p:Int)<(s.length:Int))=decide (p<s.length):=by rw[Bool.eq_iff_iff];simp
 rw[←kk]
 refine v_r (j_ g4 e) ?_
 exact⟨by first|exact trivial|exact rfl,QaC _ _ _ rfl⟩
theorem v10_13{j:J}{n:Nat}{o:AObj}(hl:lim≤H.length)(hj:OrdOK n j)(hjw:wt j≤100000000000):V X0 XP lim Qmi ⟨[x 0,x 1,.ptr H.length 0,.ptr (H.length+1) 0,.ptr (H.length+2) 0,.ptr (H.length+3) 0,x 6,x 7,x 8,x 9,x 10,x 11,x 12,x 13,x 14,x 15,x 16,x 17,x 18,x 19,x 20,x 21,x 22,x 23,x 24,x 25,x 26,x 27,x 28,x 29,x 30,x 31,x 32,x 33,x 34,x 35,x 36,x 37,x 38,x 39,x 40,x 41,x 42,x 43,x 44,x 45,x 46,x 47,x 48],H++ [jO j,nO 0,nO 0,o]⟩ (fun e st=>e= .normal∧∃x:Nat→AV,st=⟨[x 0,x 1,.ptr H.length 0,.ptr (H.length+1) 0,.ptr (H.length+2) 0,x 5,x 6,x 7,x 8,x 9,x 10,x 11,x 12,x 13,x 14,x 15,x 16,x 17,x 18,x 19,x 20,x 21,x 22,x 23,x 24,x 25,x 26,x 27,x 28,x 29,x 30,x 31,x 32,x 33,x 34,x 35,x 36,x 37,x 38,x 39,x 40,x 41,x 42,x 43,x 44,x 45,x 46,x 47,x 48],H++ [jO (QaD j),nO 0,nO 0,o]⟩) (fun _=>False):=by
 unfold Qmi
 obtain⟨K,kk,g1,g2,g3,g4,s1,s2,s3,s4⟩:=four H
 have l1:lim≤H.length+1:=by omega
 have l2:lim≤H.length+2:=by omega
 rw[←kk,←kk]
 have he:=Qeu (pr:=QaY) n lim (K (jO j) (nO 0) (nO 0) o) j hj hjw
 rw[jd,jd]at he
 (apply QaP;focus(refine Evl.call (X:=X0) (he) (Evl.all fun k e1=> ?_);simp(maxSteps:=100000000) only[zz,zd,simprocAttr,g1,g2,g3,s1,s2,s3,hl,l1,l2,e1];(first|done|with_reducible exact rfl)))<;>(try simp only[zp,simprocAttr])
 exact⟨by first|exact trivial|exact rfl,QaC _ _ _ rfl⟩
theorem v23_3n{n:Nat}:V X0 XP lim Qmb ⟨[.ptr n 0,.ptr (n+1) 0,.ptr (n+2) 0,x 3,x 4,x 5,.niliface,x 7,x 8,x 9,x 10,x 11,x 12,x 13,x 14,x 15,x 16],H⟩ (fun e st=>e= .normal∧∃x:Nat→AV,st=⟨[x 0,x 1,x 2,x 3,x 4,x 5,x 6,x 7,boolD true,x 9,x 10,x 11,x 12,x 13,x 14,x 15,x 16],H⟩) (fun _=>False):=by
 unfold Qmb
 refine Qhg (fun k=>rfl) ?_
 exact⟨by first|exact trivial|exact rfl,QaC _ _ _ rfl⟩
theorem v23_3p{n:Nat}{t:TypeId}{d:AV}:V X0 XP lim Qmb ⟨[.ptr n 0,.ptr (n+1) 0,.ptr (n+2) 0,x 3,x 4,x 5,.iface t d,x 7,x 8,x 9,x 10,x 11,x 12,x 13,x 14,x 15,x 16],H⟩ (fun e st=>e= .normal∧∃x:Nat→AV,st=⟨[.ptr n 0,.ptr (n+1) 0,.ptr (n+2) 0,x 3,x 4,x 5,.iface t d,x 7,boolD false,x 9,x 10,x 11,x 12,x 13,x 14,x 15,x 16],H⟩) (fun _=>False):=by
 unfold Qmb
 refine Qhg (fun k=>rfl) ?_
 exact⟨by first|exact trivial|exact rfl,QaC _ _ _ rfl⟩
theorem v23_4:V X0 XP lim q23_4 ⟨[x 0,x 1,x 2,x 3,x 4,x 5,x 6,x 7,x 8,x 9,x 10,x 11,x 12,x 13,x 14,x 15,x 16],H⟩ (fun e st=>e= .normal∧∃x:Nat→AV,st=⟨[x 0,x 1,x 2,x 3,x 4,x 5,x 6,x 7,x 8,x 9,x 10,x 11,x 12,x 13,x 14,x 15,x 16],H⟩) (fun _=>False):=by
 unfold q23_4
 refine v_r trivial ?_
 exact⟨by first|exact trivial|exact rfl,QaC _ _ _ rfl⟩
theorem v23_6{n:Nat}{e p:Int}(hl:lim≤H.length):V X0 XP lim q23_6 ⟨[.ptr n 0,.ptr (n+1) 0,.ptr (n+2) 0,x 3,x 4,x 5,x 6,x 7,x 8,x 9,x 10,.d (.agg [.int .i64 e,.int .i64 p]),x 12,x 13,x 14,x 15,x 16],H⟩ (fun z st=>z= .normal∧∃x:Nat→AV,st=⟨[.ptr n 0,.ptr (n+1) 0,.ptr (n+2) 0,x 3,.ptr H.length 0,x 5,x 6,x 7,x 8,x 9,x 10,x 11,x 12,x 13,x 14,x 15,x 16],H++ [.cells [intD e,intD p]]⟩) (fun _=>False):=by
 unfold q23_6
 have s1:∀o o',(H++ [o]).set H.length o'=H++ [o']:=fun o o'=>by rw[List.set_append_right _ _ (by omega)];simp
 refine v_r (j_ s1 hl) ?_
 exact⟨by first|exact trivial|exact rfl,QaC _ _ _ rfl⟩
theorem v23_7{n L:Nat}{e p a b:Int}{c1 c2 c3 c4 c5:AV}(h1:H[n]? =some (.cells [c1,c2,c3,c4,c5]))(h2:H[n+1]? =some (nO a))(h3:H[n+2]? =some (nO b))(h4:H[L]? =some (.cells [intD e,intD p]))(hL:n+3≤L)(hl:lim≤n):
  V X0 XP lim q23_7 ⟨[.ptr n 0,.ptr (n+1) 0,.ptr (n+2) 0,x 3,.ptr L 0,x 5,x 6,x 7,x 8,x 9,x 10,x 11,x 12,x 13,x 14,x 15,x 16],H⟩ (fun z st=>z= .normal∧∃x:Nat→AV,st=⟨[x 0,x 1,x 2,x 3,x 4,x 5,x 6,x 7,x 8,x 9,x 10,x 11,x 12,x 13,x 14,x 15,x 16],((H.set n zO).set (n+1) (nO e)).set (n+2) (nO p)⟩) (fun _=>False):=by
 unfold q23_7
 have l1:lim≤n+1:=by omega
 have l2:lim≤n+2:=by omega
 have g1:∀o,(H.set n o)[n+1]? =some (nO a):=fun o=>by rw[List.getElem?_set_ne (by omega)];exact h2
 have g2:∀o o',((H.set n o).set (n+1) o')[n+2]? =some (nO b):=fun o o'=>by rw[List.getElem?_set_ne (by omega),List.getElem?_set_ne (by omega)];exact h3
 have g3:∀o,(H.set n o)[L]? =some (.cells [intD e,intD p]):=fun o=>by rw[List.getElem?_set_ne (by omega)];exact h4
 have g4:∀o o',((H.set n o).set (n+1) o')[L]? =some (.cells [intD e,intD p]):=fun o o'=>by rw[List.getElem?_set_ne (by omega),List.getElem?_set_ne (by omega)];exact h4
 (apply Qhg;focus(intro k;simp(maxSteps:=100000000) only[zz,zd,simprocAttr,h1,h2,h3,h4,g1,g2,g3,g4,hl,l1,l2];(first|done|with_reducible exact rfl)))<;>(try simp only[zp,simprocAttr])
 exact⟨by first|exact trivial|exact rfl,QaC _ _ _ rfl⟩
end
end Go.Proofs.YtfoiaojdnmpgmaaGreatDoor
set_option maxHeartbeats 1000000
set_option linter.unusedVariables false
namespace Go.Proofs.YtfoiaojdnmpgmaaGreatDoor
open Go Go.Abs Go.Proofs Go.RowKit Go.Lib
theorem b10_eq:b10= .seq p10_0 (.seq (.seq p10_1 (.cond (.tmp 9) (.seq p10_2 .ret) .skip)) (.seq p10_3 (.seq (.seq p10_4 (.seq p10_5 (.cond (.tmp 21) (.seq p10_6 .ret) .skip))) (.seq QfO (.seq p10_8 (.seq QdZ (.seq Qkm (.seq (.seq Qkl (.cond (.tmp 40) Qbl .skip)) (.seq Qkk .ret))))))))):=by kernel_rfl
theorem b23_eq:b23= .seq p23_0 (.block 0 (.seq p23_3 (.cond (.tmp 8) p23_4 (.seq Qes (.cond (.tmp 10) (.seq p23_6 p23_7) (.seq p23_1 p23_2)))))):=by kernel_rfl
theorem fn10:QhU Tryz.prog 66:=⟨_,Tryz.func66,by kernel_rfl,by kernel_rfl⟩
theorem body10:Tryz.f66.body=some b10:=by kernel_rfl
theorem nt10:Tryz.f66.ntmps=49:=by kernel_rfl
theorem body23:Tryz.f116.body=some b23:=by kernel_rfl
theorem nt23:Tryz.f116.ntmps=17:=by kernel_rfl
theorem res10:QaO Tryz.prog Tryz.f66.results.toList=some [.cell 2 true 5,.cell 3 false 1,.cell 4 false 1]:=by kernel_rfl
theorem res23:QaO Tryz.prog Tryz.f116.results.toList=some []:=by kernel_rfl
theorem r7x_eq:QfO= .region 7 #[QaQ QfO 0,QaQ QfO 1] false:=by kernel_rfl
theorem r9x_eq:QdZ= .region 9 #[QaQ QdZ 0,QaQ QdZ 1,QaQ QdZ 2] false:=by kernel_rfl
theorem r12x_eq:Qbl= .region 12 #[QaQ Qbl 0,QaQ Qbl 1,QaQ Qbl 2,QaQ Qbl 3,QaQ Qbl 4,QaQ Qbl 5] false:=by kernel_rfl
theorem o7_1:(QaQ QfO 1).op= .defer { callee:= .value (.tmp 24),args:= #[],argTypes:= #[] }∧(QaQ QfO 1).guard=none∧(QaQ QfO 1).dst=none:=⟨by kernel_rfl,by kernel_rfl,by kernel_rfl⟩
theorem o9_1:(QaQ QdZ 1).op= .call { callee:= .value (.func 118),args:= #[.tmp 27,.const (.int .i64 1)],argTypes:= #[123,3] }∧(QaQ QdZ 1).guard=none:=⟨by kernel_rfl,by kernel_rfl⟩
theorem o12_5:(QaQ Qbl 5).op= .call { callee:= .value (.func 119),args:= #[.tmp 41,.const (.int .i64 16),.tmp 45],argTypes:= #[123,30,3] }∧(QaQ Qbl 5).guard=none:=⟨by kernel_rfl,by kernel_rfl⟩
theorem c7_0:Qal Tryz.prog Qag [QaQ QfO 0,QaQ QfO 1] (QaQ QfO 0)=some ⟨some 24,.mkFunc (.func 116) [.t 2,.t 3,.t 4],none,[]⟩:=by kernel_rfl
theorem c9_0:Qal Tryz.prog Qag [QaQ QdZ 0,QaQ QdZ 1,QaQ QdZ 2] (QaQ QdZ 0)=some ⟨some 27,.move (.t 5),none,[]⟩:=by kernel_rfl
noncomputable abbrev Qmy:List Oper:= [QaQ Qbl 0,QaQ Qbl 1,QaQ Qbl 2,QaQ Qbl 3,QaQ Qbl 4,QaQ Qbl 5]
theorem c12_0:Qal Tryz.prog Qag Qmy (QaQ Qbl 0)=some ⟨some 41,.move (.t 5),none,[]⟩:=by kernel_rfl
theorem c12_1:Qal Tryz.prog Qag Qmy (QaQ Qbl 1)=some ⟨some 42,.move (.t 5),none,[]⟩:=by kernel_rfl
theorem c12_2:Qal Tryz.prog Qag Qmy (QaQ Qbl 2)=some ⟨some 43,.nilCheck (.t 42),none,[]⟩:=by kernel_rfl
theorem c12_3:Qal Tryz.prog Qag Qmy (QaQ Qbl 3)=some ⟨some 44,.fieldAddr 1 (.t 43),none,[]⟩:=by kernel_rfl
theorem c12_4:Qal Tryz.prog Qag Qmy (QaQ Qbl 4)=some ⟨some 45,.load false 1 (.t 44),none,[]⟩:=by kernel_rfl
theorem r0x_eq:p23_0= .region 0 #[QaQ p23_0 0] false:=by kernel_rfl
theorem o0_0:(QaQ p23_0 0).op= .call { callee:= .builtin .recover,args:= #[],argTypes:= #[] }∧(QaQ p23_0 0).guard=none∧(QaQ p23_0 0).dst=some 6:=⟨by kernel_rfl,by kernel_rfl,by kernel_rfl⟩
theorem r5x_eq:Qes= .region 5 #[QaQ Qes 0,QaQ Qes 1,QaQ Qes 2] false:=by kernel_rfl
theorem o5_0:(QaQ Qes 0).op= .typeAssert (.tmp 6) 20 127 true∧(QaQ Qes 0).guard=none∧(QaQ Qes 0).dst=some 9:=⟨by kernel_rfl,by kernel_rfl,by kernel_rfl⟩
theorem c5_x: [QaQ Qes 1,QaQ Qes 2].mapM (Qal Tryz.prog Qag [QaQ Qes 0,QaQ Qes 1,QaQ Qes 2])=some [⟨some 10,.extract (.t 9) 1,none,[]⟩,⟨some 11,.extract (.t 9) 0,none,[]⟩]:=by kernel_rfl
section
variable [Dfr] {P:Program} {g:Gh} {w:World} {st:St} {a:Act} {Q:Exit→Act→World→Prop}
theorem Inv.weak(h:Inv g st a w){T:List AV}(hl:T.length=st.T.length)(hT:∀(i:Nat) x,T[i]? =some x→x= .undef∨st.T[i]? =some x):Inv g ⟨T,st.H⟩ a w where
 heap:=h.heap
 size:=by rw[←h.size];exact hl
 tok i x v hx hv:=by
  rcases hT i x hx with rfl|hx'
  ·exact⟨.undef _,FOK.ne (by simp)⟩
  ·exact h.tok i x v hx' hv
 nores:=h.nores
 defers:=h.defers
theorem Inv.move(h:Inv g st a w){g':Gh}{H':Qab}{w':World}(hw:WF g w g' w')(hH:HeapOK g' H' w')(hn:∀b,g'.own b≠ .res)(hT:∀x∈st.T,∀xs,x≠ .fslice xs):Inv g' ⟨st.T,H'⟩ a w' where
 heap:=hH
 size:=h.size
 tok i x v hx hv:=⟨hw.vr (h.tok i x v hx hv).1,FOK.ne (hT x (List.mem_of_getElem? hx))⟩
 nores:=hn
 defers:=h.defers
theorem QkH{f:FuncId}(hf:QhU P f)(xs:Array Value)(w:World):(callFunc f xs).run P w= .ok (.enter f xs) w:=by
 obtain⟨fn,hfn,hb,hname⟩:=hf
 have:fn.body.isNone=false:=by cases e:fn.body<;>simp_all
 simp only[callFunc,Sem.run_bind,run_program,Result.andThen_ok,hfn,hname,this]
 simp
theorem Qg2{ops:Array Oper}{o:Oper}{rest:List Oper}(hg:o.guard=none){f:FuncId}{xs:Array Operand}{ts:Array TypeId}(ho:o.op= .call { callee:= .value (.func f),args:=xs,argTypes:=ts })(hf:QhU P f)
  {R:Ending→World→Prop}(hc:Calls P f (xs.map a.eval) w R)(hk:∀e w',R e w'→∃ch,e= .panicked ch∧Q (.panic ch) a w'):wpList P ops Q (o::rest) a w:=by
 have he:(execOp a.eval o).run P w= .ok (.enter f (xs.map a.eval)) w:=by
  obtain⟨dst,op,type,pos,after,guard⟩:=o
  simp only at ho;subst ho
  show(callFunc f (#[]++xs.map a.eval++ #[])).run P w=_
  rw[QkH hf];simp
 refine wpList_plain hg fun K hK=> ?_
 unfold Oper.wp
 rw[he,Oper.upon_enter]
 refine hc.mono fun e w' hr=> ?_
 obtain⟨ch,rfl,h⟩:=hk e w' hr
 exact h
theorem Qlt{ops:Array Oper}{o:Oper}{rest:List Oper}(hg:o.guard=none){x:Operand}{ts:Array TypeId}(ho:o.op= .defer { callee:= .value x,args:= #[],argTypes:=ts }){f:FuncId}{cap:Array Value}(hx:a.eval x= .func (.func f) #[] cap)
  (hk:wpList P ops Q rest ({ a with defers:= { target:= .fn (.func f) cap,args:= #[] }::a.defers }.put o.dst undef) w):wpList P ops Q (o::rest) a w:=by
 refine wpList_plain hg fun K hK=> ?_
 obtain⟨dst,op,type,pos,after,guard⟩:=o
 simp only at ho;subst ho
 unfold Oper.wp execOp
 simp only[resolve,hx,Sem.run_bind,Sem.run_pure,Result.andThen_ok,Oper.upon]
 have h2:=hK _ _ hk
 simpa[Deferred.ofValue]using h2
end
theorem Qjk{ev:Operand→Value}{o:Oper}{ts:Array TypeId}(ho:o.op= .call { callee:= .builtin .recover,args:= #[],argTypes:=ts })(P:Program)(w:World):(execOp ev o).run P w= .ok .recover w:=by
 obtain⟨dst,op,type,pos,after,guard⟩:=o
 simp only at ho;subst ho
 rfl
theorem r23_0{Q:Exit→Act→List Frame→World→Prop}{a:Act}{cs:List Frame}{w:World}(h:match recoverD cs with
  |some (v,cs')=>Q .normal (a.put (some 6) v) cs' w
  |none=>Q .normal (a.put (some 6) .nilIface) cs w):p23_0.wpS Tryz.prog Q a cs w:=by
 rw[r0x_eq]
 refine wpS_region ?_
 show wpOpsS Tryz.prog #[QaQ p23_0 0] Q [0] a cs w
 have hw:Region.wanted (QaQ p23_0 0) (yielded #[QaQ p23_0 0] a.tmps)=true:=by simp only[Region.wanted,o0_0.2.1]
 simp only[wpOpsS,List.getElem?_toArray,List.getElem?_cons_zero,hw,if_true,Qjk o0_0.1,o0_0.2.2]
 cases hr:recoverD cs with
 |none=>rw[hr]at h;exact h
 |some p=>rw[hr]at h;exact h
section
variable {g:Gh} {H:Qab} {w:World} {n:Nat}
abbrev ptrV(g:Gh)(n:Nat):Value:= .pointer (some ⟨g.rho n,0,none⟩)
abbrev caps(g:Gh)(n:Nat):Array Value:= #[ptrV g n,ptrV g (n+1),ptrV g (n+2)]
theorem inv23(hH:HeapOK g H w)(hn:∀b,g.own b≠ .res)(hl:n+2<g.n){x:AV}{v:Value}(hv:VR g w x v)(ht:Triv x v):
  Inv g ⟨[.ptr n 0,.ptr (n+1) 0,.ptr (n+2) 0,.tuple [],.tuple [],.tuple [],x,.tuple [],.tuple [],.tuple [],.tuple [],.tuple [],.tuple [],.tuple [],.tuple [],.tuple [],.tuple []],H⟩ (({ tmps:=caps g n++Array.replicate (17-(caps g n).size) undef,defers:= [] }:Act).put (some 6) v) w:=by
 have hi:=QcC (args:= [.ptr n 0,.ptr (n+1) 0,.ptr (n+2) 0]) hH hn (vals:=caps g n) rfl (fun i y u hy hu=>by
  match i,hy,hu with
  |0,hy,hu=>cases hy;cases hu;exact⟨.ptr _ _ (by omega),FOK.ne (by simp)⟩
  |1,hy,hu=>cases hy;cases hu;exact⟨.ptr _ _ (by omega),FOK.ne (by simp)⟩
  |2,hy,hu=>cases hy;cases hu;exact⟨.ptr _ _ (by omega),FOK.ne (by simp)⟩
  |k+3,hy,hu=>simp at hy) 17
 exact Inv.put (st:=⟨[.ptr n 0,.ptr (n+1) 0,.ptr (n+2) 0,.tuple [],.tuple [],.tuple [],.tuple [],.tuple [],.tuple [],.tuple [],.tuple [],.tuple [],.tuple [],.tuple [],.tuple [],.tuple [],.tuple []],H⟩) (d:=6) hi hv ht
theorem QlE(hS:EnvS Tryz.prog pf X0 XP)(hH:HeapOK g H w)(hn:∀b,g.own b≠ .res)(hl:n+2<g.n):
  CallsD Tryz.prog 116 (caps g n) .returning w fun e u' w'=>(∃v,e= .returned v)∧u'= .returning∧∃g',WF g w g' w'∧HeapOK g' H w'∧∀b,g'.own b≠ .res:=by
 refine callsD_of_wpS Tryz.func116 body23 fun c₀ cs hu=> ?_
 rw[b23_eq,nt23]
 refine wpS_seq (r23_0 ?_)
 have hr:recoverD (c₀::cs)=none:=by simp only[recoverD,hu]
 rw[hr]
 show Code.wpS _ _ _ _ _ _
 have hi:=inv23 hH hn hl (x:= .niliface) (v:= .nilIface) .niliface (fun xs e=>by cases e)
 refine wpS_of_wp (wp_block (wp_seq (Qei hS k23_3 rfl hi (Nat.zero_le _) (v23_3n (fun _=> .tuple [])) ?_ (fun _ h=>h.elim))))
 rintro e st1 g1 a1 w1 ⟨rfl,x1,rfl⟩ hw1 hi1 hx1
 show Code.wp Tryz.prog (.cond (.tmp 8) _ _) _ a1 w1
 refine wp_cond (Inv.bool (b:=true) hi1 rfl) ?_
 rw[if_pos rfl]
 refine Qei hS k23_4 rfl hi1 (Nat.zero_le _) (v23_4 (fun i=>if i=8 then boolD true else x1 i)) ?_ (fun _ h=>h.elim)
 rintro e st2 g2 a2 w2 ⟨rfl,x2,rfl⟩ hw2 hi2 hx2
 obtain⟨v,hv1,hv2,hv3⟩:=Qeq hi2 res23 (show Qbw _ _ []=some []from rfl)
 refine⟨hi2.defers,.returning,by cases c₀;simp_all,v,hv1,⟨v,rfl⟩,rfl,g2,hw1.trans hw2,hi2.heap,hi2.nores⟩
theorem Qk6{ev:Operand→Value}{o:Oper}{x:Operand}(ho:o.op= .typeAssert x 20 127 true){v:Value}(hx:ev x= .iface 127 v)(w:World):(execOp ev o).run Tryz.prog w= .ok (.value (.tuple #[v,.bool true])) w:=by
 obtain⟨dst,op,type,pos,after,guard⟩:=o
 simp only at ho;subst ho
 unfold execOp
 simp only[hx]
 kernel_rfl
theorem Qls{P:Program}{a:Act}{Q:Exit→Act→World→Prop}{ops:Array Oper}{o:Oper}{rest:List Oper}(hg:o.guard=none){v:Value}(he:(execOp a.eval o).run P w= .ok (.value v) w)(hk:wpList P ops Q rest (a.put o.dst v) w):wpList P ops Q (o::rest) a w:=by
 refine wpList_plain hg fun K hK=> ?_
 unfold Oper.wp
 rw[he]
 exact hK _ _ hk
abbrev Qgy(H:Qab)(n:Nat)(e p:Int):Qab:=(((H++ [AObj.cells [intD e,intD p]]).set n zO).set (n+1) (nO e)).set (n+2) (nO p)
theorem Qnp(hS:EnvS Tryz.prog pf X0 XP)(hH:HeapOK g H w)(hn:∀b,g.own b≠ .res)(hl:n+2<g.n){c1 c2 c3 c4 c5:AV}{a b e p:Int}{v:Value}(o1:H[n]? =some (.cells [c1,c2,c3,c4,c5]))(o2:H[n+1]? =some (nO a))(o3:H[n+2]? =some (nO b))
  (hv:VR g w (.d (.agg [.int .i64 e,.int .i64 p])) v):
  CallsD Tryz.prog 116 (caps g n) (.panicking [{ v:= .iface 127 v,recovered:=false }]) w fun z u' w'=>(∃v,z= .returned v)∧settle u'= .returning∧∃g',WF g w g' w'∧HeapOK g' (Qgy H n e p) w'∧∀b,g'.own b≠ .res:=by
 refine callsD_of_wpS Tryz.func116 body23 fun c₀ cs hu=> ?_
 rw[b23_eq,nt23]
 refine wpS_seq (r23_0 ?_)
 have hr:recoverD (c₀::cs)=some (.iface 127 v,{ c₀ with mode:= .panicking [{ v:= .iface 127 v,recovered:=true }] }::cs):=by simp only[recoverD,hu]
 rw[hr]
 show Code.wpS _ _ _ _ _ _
 have hnl:H.length=g.n:=hH.n.symm
 have hi:=inv23 hH hn hl (x:= .iface 127 (.d (.agg [.int .i64 e,.int .i64 p]))) (v:= .iface 127 v) (.iface _ _ _ hv (Triv.d _ _)) (fun xs e=>by cases e)
 refine wpS_of_wp (wp_block (wp_seq (Qei hS k23_3 rfl hi (Nat.zero_le _) (v23_3p (fun _=> .tuple [])) ?_ (fun _ h=>h.elim))))
 rintro z st1 g1 a1 w1 ⟨rfl,x1,rfl⟩ hw1 hi1 hx1
 show Code.wp Tryz.prog (.cond (.tmp 8) _ _) _ a1 w1
 refine wp_cond (Inv.bool (b:=false) hi1 rfl) ?_
 rw[if_neg (by simp)]
 have h6:=(Qby hi1 6).1
 rw[show(St.T _).getD 6 .undef= .iface 127 (.d (.agg [.int .i64 e,.int .i64 p]))from rfl]at h6
 have h6':a1.eval (.tmp 6)=a1.tmps.getD 6 undef:=rfl
 generalize a1.tmps.getD 6 undef=u6 at h6 h6'
 cases h6 with
 |iface _ _ v6 hv6 ht6=>
 rw[r5x_eq]
 refine wp_seq (wp_region_list (Qls o5_0.2.1 (Qk6 o5_0.1 h6' w1) ?_))
 rw[o5_0.2.2]
 have hvt:VR g1 w1 (.tuple [.d (.agg [.int .i64 e,.int .i64 p]),boolD true]) (.tuple #[v6,.bool true]):=by
  refine .tuple _ _ rfl (fun i c u hc hu=> ?_) (fun i c u hc hu=> ?_)
  ·match i,hc,hu with
   |0,hc,hu=>cases hc;cases hu;exact hv6
   |1,hc,hu=>cases hc;cases hu;exact .d _ _ (.bool _)
   |k+2,hc,hu=>simp at hc
  ·match i,hc,hu with
   |0,hc,hu=>cases hc;exact Triv.d _ _
   |1,hc,hu=>cases hc;exact Triv.d _ _
   |k+2,hc,hu=>simp at hc
 have hi2:=hi1.put (d:=9) hvt (fun xs e=>by cases e)
 refine Qey (lim:=0) (hS.e 0) _ _ c5_x hi2 (Nat.zero_le _) (show runOps _ _ _ _=some ⟨[.ptr n 0,.ptr (n+1) 0,.ptr (n+2) 0,x1 3,x1 4,x1 5,.iface 127 (.d (.agg [.int .i64 e,.int .i64 p])),x1 7,boolD false,.tuple [.d (.agg [.int .i64 e,.int .i64 p]),boolD true],boolD true,.d (.agg [.int .i64 e,.int .i64 p]),x1 12,x1 13,x1 14,x1 15,x1 16],H⟩from rfl) ?_
 intro g3 a3 w3 hw3 hi3 hx3
 show Code.wp Tryz.prog (.cond (.tmp 10) _ _) _ a3 w3
 refine wp_cond (Inv.bool (b:=true) hi3 rfl) ?_
 rw[if_pos rfl]
 refine wp_seq (Qei hS k23_6 rfl hi3 (Nat.zero_le _) (v23_6 (fun i=>if i=6 then .iface 127 (.d (.agg [.int .i64 e,.int .i64 p]))else if i=8 then boolD false else if i=9 then .tuple [.d (.agg [.int .i64 e,.int .i64 p]),boolD true]else if i=10 then boolD true else x1 i) (Nat.zero_le _)) ?_ (fun _ h=>h.elim))
 rintro z st4 g4 a4 w4 ⟨rfl,x4,rfl⟩ hw4 hi4 hx4
 show Code.wp Tryz.prog p23_7 _ a4 w4
 have more:∀ {i:Nat} {o:AObj},H[i]? =some o→(H++ [AObj.cells [intD e,intD p]])[i]? =some o:=fun h=>by rw[List.getElem?_append_left (List.getElem?_eq_some_iff.1 h).1];exact h
 refine Qei hS k23_7 rfl hi4 (Nat.zero_le _) (v23_7 x4 (more o1) (more o2) (more o3) (show _=some (AObj.cells [intD e,intD p]) by simp) (by omega) (Nat.zero_le _)) ?_ (fun _ h=>h.elim)
 rintro z st5 g5 a5 w5 ⟨rfl,x5,rfl⟩ hw5 hi5 hx5
 obtain⟨v,hv1,hv2,hv3⟩:=Qeq hi5 res23 (show Qbw _ _ []=some []from rfl)
 exact⟨hi5.defers,_,rfl,v,hv1,⟨v,rfl⟩,rfl,g5,((hw1.trans hw3).trans hw4).trans hw5,hi5.heap,hi5.nores⟩
end
end Go.Proofs.YtfoiaojdnmpgmaaGreatDoor
set_option maxHeartbeats 1000000
set_option linter.unusedVariables false
namespace Go.Proofs.YtfoiaojdnmpgmaaGreatDoor
open Go Go.Abs Go.Proofs Go.RowKit Go.Lib
def DRes(g0:Gh)(w0:World)(H0:Qab)(s:Tx)(e:Ending)(w':World):Prop:=
 ∃v g',e= .returned v∧WF g0 w0 g' w'∧HeapOK g' H0 w'∧VR g' w' (Qgi (QbT s)) v
abbrev dcl(c:Array Value):Deferred:= { target:= .fn (.func 116) c,args:= #[] }
def Gh.unres(g:Gh):Gh:=g.relabel .res .mine
theorem Qff(g:Gh)(w:World):WF g w (Gh.unres g) w where
 os:=rfl
 tape:=rfl
 output:=rfl
 size:=Nat.le_refl _
 idle x _ ho:=by
  have:g.own x≠ .res:=by rcases ho with h|h<;>rw[h]<;>simp
  simp[Gh.unres,Gh.relabel,this]
 stays b i hi:=⟨hi,rfl⟩
 n:=Nat.le_refl _
 rho _ _:=rfl
 out x hx:=by
  simp only[Gh.unres,Gh.relabel]at hx
  split at hx
  ·cases hx
  ·exact hx
 mine x hx:=by simp[Gh.unres,Gh.relabel,hx]
theorem Qlq{g:Gh}{H:Qab}{w:World}(h:HeapOK g H w):HeapOK (Gh.unres g) H w where
 n:=h.n
 own r hr ha:=by
  obtain⟨h1,h2⟩:=h.own r hr ha
  exact⟨by simp[Gh.unres,Gh.relabel,h1],h2⟩
 obj r o ho:=by
  have hr:r<g.n:=by rw[h.n];exact(List.getElem?_eq_some_iff.1 ho).1
  exact(h.obj r o ho).keep (Qff g w) hr (fun _=>rfl) (fun j a v hf=>hf.keep fun x hx=>⟨by simp[Gh.unres,Gh.relabel,hx],rfl,fun cs e fr hh hz=>⟨cs,fr,hh,rfl,hz⟩⟩)
 new x hx:=by
  obtain⟨h1,h2⟩:=h.new x hx
  exact⟨by simp[Gh.unres,Gh.relabel,h1],h2⟩
 glob n cs hn:=(Qff g w).vr (h.glob n cs hn)
theorem no_unres(g:Gh)(b:Nat):(Gh.unres g).own b≠ .res:=by
 simp only[Gh.unres,Gh.relabel]
 split
 ·simp
 ·assumption
theorem Ext.get{lim:Nat}{H H':Qab}(h:Ext lim H H'){i:Nat}(hi:i<lim):H'[i]? =H[i]? :=by
 have:=congrArg (fun l=>l[i]?) h.2
 simpa only[List.getElem?_take,if_pos hi]using this
section
variable {g0:Gh} {w0:World} {H0:Qab} {s:Tx}
theorem QjO [Dfr](h0:HeapOK g0 H0 w0){g:Gh}{st:St}{a:Act}{w:World}(hw:WF g0 w0 g w)(hi:Inv g st a w){j:D}{e p:Int}(hr:Qbw st.T st.H [.cell 2 true 5,.cell 3 false 1,.cell 4 false 1]=some [.d j,intD e,intD p])(hx:Ext H0.length H0 st.H)
  (hd:Qgi (QbT s)= .tuple [.d j,intD e,intD p]):∃v,(results Tryz.f66 a.tmps).run Tryz.prog w= .ok v w∧DRes g0 w0 H0 s (.returned v) w:=by
 obtain⟨v,hv1,hv2,_⟩:=Qeq hi res10 hr
 refine⟨v,hv1,v,g.cut w H0.length,rfl,Qj1 hw h0.n,QkC h0 hi.heap hx, ?_⟩
 rw[hd]
 exact Qf9 hi.heap hv2 rfl
theorem Qkz(c:Array Value)(w:World):(invoke (.fn (.func 116) c) #[]).run Tryz.prog w= .ok (.enter 116 c) w:=by
 have hf:QhU Tryz.prog 116:=⟨_,Tryz.func116,by kernel_rfl,by kernel_rfl⟩
 have:=QkH hf (#[]++c) w
 show(callFunc 116 (#[]++c)).run Tryz.prog w=_
 rw[this];simp
theorem QbS{g g':Gh}{w w':World}{n:Nat}(hw:WF g w g' w')(hl:n+2<g.n):caps g' n=caps g n:=by
 simp only[caps,ptrV,hw.rho n (by omega),hw.rho (n+1) (by omega),hw.rho (n+2) hl]
theorem Inv.boolD' [Dfr]{g:Gh}{st:St}{a:Act}{w:World}(h:Inv g st a w){i:Nat}{b:Bool}(hT:st.T.getD i .undef=boolD b):a.eval (.tmp i)= .bool b:=by
 have:=(Qby h i).1
 rw[hT]at this
 show a.tmps.getD i undef=_
 generalize a.tmps.getD i undef=v at this
 cases this with
 |d _ _ h=>cases h;rfl
theorem Inv.ptrD [Dfr]{g:Gh}{st:St}{a:Act}{w:World}(h:Inv g st a w){i n:Nat}(hT:st.T.getD i .undef= .ptr n 0):a.eval (.tmp i)= .pointer (some ⟨g.rho n,0,none⟩):=by
 have:=(Qby h i).1
 rw[hT]at this
 show a.tmps.getD i undef=_
 generalize a.tmps.getD i undef=v at this
 cases this;rfl
theorem Inv.numD [Dfr]{g:Gh}{st:St}{a:Act}{w:World}(h:Inv g st a w){i:Nat}{k:IntKind}{n:Int}(hT:st.T.getD i .undef= .d (.int k n)):a.eval (.tmp i)= .int k n:=by
 have:=(Qby h i).1
 rw[hT]at this
 show a.tmps.getD i undef=_
 generalize a.tmps.getD i undef=v at this
 cases this with
 |d _ _ h=>cases h;rfl
theorem Inv.funcD [Dfr]{g:Gh}{st:St}{a:Act}{w:World}(h:Inv g st a w){i n:Nat}(hT:st.T.getD i .undef= .func (.func 116) [.ptr n 0,.ptr (n+1) 0,.ptr (n+2) 0]):a.eval (.tmp i)= .func (.func 116) #[] (caps g n):=by
 have:=(Qby h i).1
 rw[hT]at this
 show a.tmps.getD i undef=_
 generalize a.tmps.getD i undef=v at this
 cases this with
 |func _ _ vs hl h ht=>
  congr 1
  apply Array.ext
  ·simpa using hl.symm
  ·intro k hk1 hk2
   simp only[caps,List.size_toArray,List.length_cons,List.length_nil]at hk2
   have h1:vs[k]? =some vs[k]:=Array.getElem?_eq_getElem hk1
   match k,hk2 with
   |0,_=>have:=h 0 _ _ rfl h1;generalize vs[0]=u at this;cases this;rfl
   |1,_=>have:=h 1 _ _ rfl h1;generalize vs[1]=u at this;cases this;rfl
   |2,_=>have:=h 2 _ _ rfl h1;generalize vs[2]=u at this;cases this;rfl
abbrev Qj7:List AV:=List.replicate 44 .undef
theorem QkL [Dfr](hS:EnvS Tryz.prog pf X0 XP)(h0:HeapOK g0 H0 w0){c:Array Value}(hd:Dfr.ds= [dcl c]){g:Gh}{T:List AV}{a:Act}{w:World}{c1 c2 c3 c4 c5:AV}{a1 b1:Int}{o:AObj}(hw:WF g0 w0 g w)(hc:caps g H0.length=c)
  (hi:Inv g ⟨T,H0++ [.cells [c1,c2,c3,c4,c5],nO a1,nO b1,o]⟩ a w)(hT:T.length=49)(hT2:T[2]? =some (.ptr H0.length 0))(hT3:T[3]? =some (.ptr (H0.length+1) 0))(hT4:T[4]? =some (.ptr (H0.length+2) 0))
  {g':Gh}{H':Qab}{w':World}{v:Value}{e p:Nat}(hw':WF g w g' w')(hx:Ext (H0.length+3) (H0++ [.cells [c1,c2,c3,c4,c5],nO a1,nO b1,o]) H')(hH':HeapOK g' H' w')(hv:VR g' w' (.d (.agg [.int .i64 e,.int .i64 p])) v)(hds:QbT s= .error (e,p)):
  Leaves Tryz.prog Tryz.f66 a.tmps (DRes g0 w0 H0 s) a.defers (.panicking [{ v:= .iface 127 v,recovered:=false }]) w':=by
 obtain⟨K,kk,k1,k2,k3,k4,_⟩:=four H0
 rw[←kk]at hi hx
 have hgn:g.n=H0.length+4:=by rw[hi.heap.n,kk];simp
 have hw1:=hw'.trans (Qff g' w')
 have hH1:=Qlq hH'
 have hgn1:H0.length+2<(Gh.unres g').n:=Nat.lt_of_lt_of_le (by omega) hw1.n
 rw[hi.defers,hd]
 have o1:=(Ext.get hx (show H0.length<H0.length+3 by omega)).trans (k1 _ _ _ _)
 have o2:=(Ext.get hx (show H0.length+1<H0.length+3 by omega)).trans (k2 _ _ _ _)
 have o3:=(Ext.get hx (show H0.length+2<H0.length+3 by omega)).trans (k3 _ _ _ _)
 have hlen:=hx.1
 rw[kk]at hlen
 simp only[List.length_append,List.length_cons,List.length_nil]at hlen
 refine leaves_cons (f:=116) (args:=c) (by simp) (Qkz c _) ?_
 rw[←hc,←QbS hw1 (by omega)]
 refine(Qnp hS hH1 (no_unres g') hgn1 o1 o2 o3 ((Qff g' w').vr hv)).mono ?_
 rintro z u' w2 ⟨⟨v2,rfl⟩,hu,g2,hw2,hH2,hn2⟩
 show Leaves Tryz.prog Tryz.f66 a.tmps (DRes g0 w0 H0 s) [] (settle u') w2
 rw[hu]
 have hwk:=Inv.weak hi (T:= [.undef,.undef,.ptr H0.length 0,.ptr (H0.length+1) 0,.ptr (H0.length+2) 0]++Qj7) (by rw[hT];rfl) fun i x hx=>by
  match i,hx with
  |0,hx=>cases hx;exact .inl rfl
  |1,hx=>cases hx;exact .inl rfl
  |2,hx=>cases hx;exact .inr hT2
  |3,hx=>cases hx;exact .inr hT3
  |4,hx=>cases hx;exact .inr hT4
  |k+5,hx=>
   have:Qj7[k]? =some x:=hx
   exact .inl (List.eq_of_mem_replicate (List.mem_of_getElem? this))
 have him:=Inv.move hwk (hw1.trans hw2) hH2 hn2 fun x hx xs=>by
  rcases List.mem_append.1 hx with h|h
  ·simp only[List.mem_cons,List.not_mem_nil,or_false]at h
   rcases h with rfl|rfl|rfl|rfl|rfl<;>simp
  ·rw[List.eq_of_mem_replicate h];simp
 have s1:(Qgy H' H0.length e p)[H0.length]? =some zO:=by
  unfold Qgy
  rw[List.getElem?_set_ne (by omega),List.getElem?_set_ne (by omega),List.getElem?_set_self (by simp;omega)]
 have s2:(Qgy H' H0.length e p)[H0.length+1]? =some (nO e):=by
  unfold Qgy
  rw[List.getElem?_set_ne (by omega),List.getElem?_set_self (by simp;omega)]
 have s3:(Qgy H' H0.length e p)[H0.length+2]? =some (nO p):=by
  unfold Qgy
  rw[List.getElem?_set_self (by simp;omega)]
 refine QjO h0 (hw.trans (hw1.trans hw2)) him (j:=J.zero.d) (e:=e) (p:=p) ?_ ?_ (by rw[hds])
 ·simp only[Qbw,List.cons_append,List.nil_append,List.getD_cons_succ,List.getD_cons_zero,s1,s2,s3]
  rfl
 ·refine⟨by simp[Qgy];omega, ?_⟩
  have e1:(Qgy H' H0.length e p).take H0.length=H'.take H0.length:=by
   unfold Qgy
   rw[List.take_set_of_le (by omega),List.take_set_of_le (by omega),List.take_set_of_le (by omega),List.take_append_of_le_length (by omega)]
  have e2:=(Ext.less hx (show H0.length≤H0.length+3 by omega)).2
  rw[e1,e2,kk,List.take_append_of_le_length (Nat.le_refl _)]
end
end Go.Proofs.YtfoiaojdnmpgmaaGreatDoor
set_option maxHeartbeats 2000000
set_option linter.unusedVariables false
namespace Go.Proofs.YtfoiaojdnmpgmaaGreatDoor
open Go Go.Abs Go.Proofs Go.RowKit Go.Lib
abbrev D5(n:Nat)(x:Nat→AV):List AV:= [x 0,x 1,.ptr n 0,.ptr (n+1) 0,.ptr (n+2) 0,.ptr (n+3) 0,x 6,x 7,x 8,x 9,x 10,x 11,x 12,x 13,x 14,x 15,x 16,x 17,x 18,x 19,x 20,x 21,x 22,x 23,x 24,x 25,x 26,x 27,x 28,x 29,x 30,x 31,x 32,x 33,x 34,x 35,x 36,x 37,x 38,x 39,x 40,x 41,x 42,x 43,x 44,x 45,x 46,x 47,x 48]
noncomputable abbrev restC:Code:= .seq p10_8 (.seq QdZ (.seq Qkm (.seq (.seq Qkl (.cond (.tmp 40) Qbl .skip)) (.seq Qkk .ret))))
section
variable {g0:Gh} {w0:World} {H0:Qab} {s:Tx}
theorem Ext4{H0 K:Qab}{lim:Nat}(h:lim≤H0.length)(l:List AObj):Ext lim H0 (H0++l):=⟨by simp,List.take_append_of_le_length h⟩
theorem dec_rest [Dfr](hS:EnvS Tryz.prog pf X0 XP)(h0:HeapOK g0 H0 w0){c:Array Value}(hd:Dfr.ds= [dcl c])(hs:s.length≤16384)(hbr:¬0≤QaV s){g:Gh}{a:Act}{w:World}{x:Nat→AV}(hw:WF g0 w0 g w)(hc:caps g H0.length=c)
  (hi:Inv g ⟨D5 H0.length x,H0++ [zO,nO 0,nO 0,rdO s (0:Nat)]⟩ a w):restC.wp Tryz.prog (bodyPostD Tryz.prog Tryz.f66 (DRes g0 w0 H0 s)) a w:=by
 have hll:∀(a b c d:AObj),H0.length≤(H0++ [a,b,c,d]).length:=fun _ _ _ _=>by simp
 have hll3:∀(a b c d:AObj),H0.length+3≤(H0++ [a,b,c,d]).length:=fun _ _ _ _=>by simp
 have hgn:∀ {g:Gh} {T:List AV} {a b c d:AObj} {ac:Act} {w:World},Inv g ⟨T,H0++ [a,b,c,d]⟩ ac w→H0.length+2<g.n:=fun h=>by rw[h.heap.n];simp
 refine wp_seq (Qei hS k10_8 rfl hi (hll _ _ _ _) (v10_8 x (by omega) hs) ?_ (fun _ h=>h.elim))
 rintro z st1 g1 a1 w1 ⟨rfl,x1,rfl⟩ hw1 hi1 hx1
 have hc1:=(QbS hw1 (hgn hi)).trans hc
 have hb0:=(Qa7 s 0).2 (Nat.zero_le _)
 generalize hp:Qar s 0=p at hi1 hb0
 have hval:=(QhW (2*s.length+3)) (H0.length+3) (H0++ [zO,nO 0,nO 0,rdO s p]) (H0.length+3) s p 1 (by rw[List.getElem?_append_right (by omega)];simp) (Nat.le_refl _) hs hb0 (by omega) (by omega)
 have hds:QbT s=match Qbk s (2*s.length+3) 1 p with
  |.error e=> .error e
  |.ok (j,q)=>if Qar s q<s.length then .error (16,Qar s q)else .ok (QaD j):=by
  unfold QbT
  rw[if_neg (by omega),if_neg hbr,hp]
  cases Qbk s (2*s.length+3) 1 p with
  |error e=>rfl
  |ok y=>rfl
 show Code.wp Tryz.prog (.seq QdZ _) _ a1 w1
 cases hv:Qbk s (2*s.length+3) 1 p with
 |error er=>
  rw[hv]at hds
  have hP:=hval.noJ hv
  unfold EvP at hP
  obtain⟨k0,hP⟩:=hP
  rw[r9x_eq]
  refine wp_seq (wp_region_list ?_)
  refine Qbn (lim:=H0.length) (E:=X0 0) c9_0 (hS.e 0) hi1 (hll _ _ _ _) (show stepOp _ _ _ _=some ⟨(D5 H0.length x1).set 27 (.ptr (H0.length+3) 0),_⟩from rfl) ?_
  intro g2 a2 w2 hw2 hi2 hx2
  obtain⟨hf,hcall⟩:=hS.p k0 118 (H0.length+3) [.ptr (H0.length+3) 0,intD ((1:Nat):Int)] _ _ _ (hP k0 (Nat.le_refl _)) (hll3 _ _ _ _)
  have hvals:(#[Operand.tmp 27,.const (.int .i64 1)].map a2.eval)= #[a2.eval (.tmp 27),.int .i64 1]:=by simp[Act.eval]
  refine Qg2 o9_1.2 o9_1.1 hf (hcall (#[Operand.tmp 27,.const (.int .i64 1)].map a2.eval) g2 w2 hi2.heap hi2.nores (by simp) ?_) ?_
  ·rw[hvals,Inv.ptrD (n:=H0.length+3) hi2 rfl]
   intro i y u hy hu
   match i,hy,hu with
   |0,hy,hu=>cases hy;cases hu;exact⟨.ptr _ _ (by rw[hi2.heap.n];simp),fun xs e=>by cases e⟩
   |1,hy,hu=>cases hy;cases hu;exact⟨.d _ _ (.int _ _),Triv.d _ _⟩
   |k+2,hy,hu=>simp at hy
  ·rintro e w' ⟨v,g',H',rfl,hw',hx',hH',hv'⟩
   refine⟨_,rfl, ?_⟩
   have hc2:=(QbS hw2 (hgn hi1)).trans hc1
   exact QkL hS h0 hd ((hw.trans hw1).trans hw2) hc2 hi2 rfl rfl rfl rfl hw' hx' hH' hv' hds
 |ok y=>
  obtain⟨j,q⟩:=y
  rw[hv]at hds
  simp only at hds
  have hvl:=Qfg hv
  have hbq:=(Qa7 s q).2 hvl.2
  obtain⟨⟨no,hno⟩,hnw⟩:=QlP hv
  refine wp_seq (Qei hS k10_9 rfl hi1 (hll _ _ _ _) (v10_9 x1 (Nat.le_refl _) hs hb0 hv) ?_ (fun _ h=>h.elim))
  rintro z st2 g2 a2 w2 ⟨rfl,x2,rfl⟩ hw2 hi2 hx2
  have hc2:=(QbS hw2 (hgn hi1)).trans hc1
  show Code.wp Tryz.prog (.seq Qkm _) _ a2 w2
  refine wp_seq (Qei hS k10_10 rfl hi2 (hll _ _ _ _) (v10_10 x2 (by omega) hs hvl.2) ?_ (fun _ h=>h.elim))
  rintro z st3 g3 a3 w3 ⟨rfl,x3,rfl⟩ hw3 hi3 hx3
  have hc3:=(QbS hw3 (hgn hi2)).trans hc2
  generalize hbs:Qar s q=q' at hi3 hds hbq
  show Code.wp Tryz.prog (.seq (.seq Qkl _) _) _ a3 w3
  refine wp_seq (wp_seq (Qei hS k10_11 rfl hi3 (hll _ _ _ _) (v10_11 (lim:=H0.length) x3) ?_ (fun _ h=>h.elim)))
  rintro z st4 g4 a4 w4 ⟨rfl,x,rfl⟩ hw4 hi4 hx4
  have hc4:=(QbS hw4 (hgn hi3)).trans hc3
  show Code.wp Tryz.prog (.cond (.tmp 40) _ _) _ a4 w4
  refine wp_cond (Inv.boolD' (b:=decide (q'<s.length)) hi4 rfl) ?_
  by_cases hq:q'<s.length
  ·rw[if_pos hq]at hds
   rw[decide_eq_true hq,if_pos rfl]
   have hP:=QaW (pr:=QaY) (pP:=Qc8) (H0.length+3) (H0++ [jO j,nO 0,nO 0,rdO s q']) (H0.length+3) 16 q'
   unfold EvP at hP
   obtain⟨k0,hP⟩:=hP
   rw[r12x_eq]
   refine wp_region_list ?_
   have gk:(H0++ [jO j,nO 0,nO 0,rdO s q'])[H0.length+3]? =some (rdO s q'):=by rw[List.getElem?_append_right (by omega)];simp
   refine Qbn (lim:=H0.length) (E:=X0 0) c12_0 (hS.e 0) hi4 (hll _ _ _ _) (st':=⟨[x 0,x 1,.ptr H0.length 0,.ptr (H0.length+1) 0,.ptr (H0.length+2) 0,.ptr (H0.length+3) 0,x 6,x 7,x 8,x 9,x 10,x 11,x 12,x 13,x 14,x 15,x 16,x 17,x 18,x 19,x 20,x 21,x 22,x 23,x 24,x 25,x 26,x 27,x 28,x 29,x 30,x 31,x 32,x 33,x 34,x 35,x 36,x 37,x 38,x 39,boolD (decide (q'<s.length)),.ptr (H0.length+3) 0,x 42,x 43,x 44,x 45,x 46,x 47,x 48],_⟩) rfl ?_
   intro g5 a5 w5 hw5 hi5 hx5
   refine Qbn (lim:=H0.length) (E:=X0 0) c12_1 (hS.e 0) hi5 (hll _ _ _ _) (st':=⟨[x 0,x 1,.ptr H0.length 0,.ptr (H0.length+1) 0,.ptr (H0.length+2) 0,.ptr (H0.length+3) 0,x 6,x 7,x 8,x 9,x 10,x 11,x 12,x 13,x 14,x 15,x 16,x 17,x 18,x 19,x 20,x 21,x 22,x 23,x 24,x 25,x 26,x 27,x 28,x 29,x 30,x 31,x 32,x 33,x 34,x 35,x 36,x 37,x 38,x 39,boolD (decide (q'<s.length)),.ptr (H0.length+3) 0,.ptr (H0.length+3) 0,x 43,x 44,x 45,x 46,x 47,x 48],_⟩) rfl ?_
   intro g6 a6 w6 hw6 hi6 hx6
   refine Qbn (lim:=H0.length) (E:=X0 0) c12_2 (hS.e 0) hi6 (hll _ _ _ _) (st':=⟨[x 0,x 1,.ptr H0.length 0,.ptr (H0.length+1) 0,.ptr (H0.length+2) 0,.ptr (H0.length+3) 0,x 6,x 7,x 8,x 9,x 10,x 11,x 12,x 13,x 14,x 15,x 16,x 17,x 18,x 19,x 20,x 21,x 22,x 23,x 24,x 25,x 26,x 27,x 28,x 29,x 30,x 31,x 32,x 33,x 34,x 35,x 36,x 37,x 38,x 39,boolD (decide (q'<s.length)),.ptr (H0.length+3) 0,.ptr (H0.length+3) 0,.ptr (H0.length+3) 0,x 44,x 45,x 46,x 47,x 48],_⟩) rfl ?_
   intro g7 a7 w7 hw7 hi7 hx7
   refine Qbn (lim:=H0.length) (E:=X0 0) c12_3 (hS.e 0) hi7 (hll _ _ _ _) (st':=⟨[x 0,x 1,.ptr H0.length 0,.ptr (H0.length+1) 0,.ptr (H0.length+2) 0,.ptr (H0.length+3) 0,x 6,x 7,x 8,x 9,x 10,x 11,x 12,x 13,x 14,x 15,x 16,x 17,x 18,x 19,x 20,x 21,x 22,x 23,x 24,x 25,x 26,x 27,x 28,x 29,x 30,x 31,x 32,x 33,x 34,x 35,x 36,x 37,x 38,x 39,boolD (decide (q'<s.length)),.ptr (H0.length+3) 0,.ptr (H0.length+3) 0,.ptr (H0.length+3) 0,.ptr (H0.length+3) 1,x 45,x 46,x 47,x 48],_⟩) rfl ?_
   intro g8 a8 w8 hw8 hi8 hx8
   refine Qbn (lim:=H0.length) (E:=X0 0) c12_4 (hS.e 0) hi8 (hll _ _ _ _) (st':=⟨[x 0,x 1,.ptr H0.length 0,.ptr (H0.length+1) 0,.ptr (H0.length+2) 0,.ptr (H0.length+3) 0,x 6,x 7,x 8,x 9,x 10,x 11,x 12,x 13,x 14,x 15,x 16,x 17,x 18,x 19,x 20,x 21,x 22,x 23,x 24,x 25,x 26,x 27,x 28,x 29,x 30,x 31,x 32,x 33,x 34,x 35,x 36,x 37,x 38,x 39,boolD (decide (q'<s.length)),.ptr (H0.length+3) 0,.ptr (H0.length+3) 0,.ptr (H0.length+3) 0,.ptr (H0.length+3) 1,intD q',x 46,x 47,x 48],H0++ [jO j,nO 0,nO 0,rdO s q']⟩) ?_ ?_
   ·simp only[zz,simprocAttr,gk]
   intro g9 a9 w9 hw9 hi9 hx9
   obtain⟨hf,hcall⟩:=hS.p k0 119 (H0.length+3) [.ptr (H0.length+3) 0,intD ((16:Nat):Int),intD q'] _ _ _ (hP k0 (Nat.le_refl _)) (hll3 _ _ _ _)
   have hvals:(#[Operand.tmp 41,.const (.int .i64 16),.tmp 45].map a9.eval)= #[a9.eval (.tmp 41),.int .i64 16,a9.eval (.tmp 45)]:=by simp[Act.eval]
   have hw49:=((((hw5.trans hw6).trans hw7).trans hw8).trans hw9)
   have hc9:=(QbS hw49 (hgn hi4)).trans hc4
   refine Qg2 o12_5.2 o12_5.1 hf (hcall (#[Operand.tmp 41,.const (.int .i64 16),.tmp 45].map a9.eval) g9 w9 hi9.heap hi9.nores (by simp) ?_) ?_
   ·rw[hvals,Inv.ptrD (n:=H0.length+3) hi9 rfl,Inv.numD (k:= .i64) (n:=q') hi9 rfl]
    intro i y u hy hu
    match i,hy,hu with
    |0,hy,hu=>cases hy;cases hu;exact⟨.ptr _ _ (by rw[hi9.heap.n];simp),fun xs e=>by cases e⟩
    |1,hy,hu=>cases hy;cases hu;exact⟨.d _ _ (.int _ _),Triv.d _ _⟩
    |2,hy,hu=>cases hy;cases hu;exact⟨.d _ _ (.int _ _),Triv.d _ _⟩
    |k+3,hy,hu=>simp at hy
   ·rintro e w' ⟨v,g',H',rfl,hw',hx',hH',hv'⟩
    refine⟨_,rfl, ?_⟩
    exact QkL hS h0 hd (((((hw.trans hw1).trans hw2).trans hw3).trans hw4).trans hw49) hc9 hi9 rfl rfl rfl rfl hw' hx' hH' hv' hds
  ·rw[if_neg hq]at hds
   rw[decide_eq_false hq,if_neg (by simp)]
   refine wp_skip ?_
   show Code.wp Tryz.prog (.seq Qkk .ret) _ a4 w4
   refine wp_seq (Qei hS k10_13 rfl hi4 (hll _ _ _ _) (v10_13 (fun i=>if i=40 then boolD (decide (q'<s.length))else x i) (Nat.le_refl _) hno (by omega)) ?_ (fun _ h=>h.elim))
   rintro z st5 g5 a5 w5 ⟨rfl,x5,rfl⟩ hw5 hi5 hx5
   have hc5:=(QbS hw5 (hgn hi4)).trans hc4
   refine wp_ret ?_
   show Leaves Tryz.prog Tryz.f66 a5.tmps (DRes g0 w0 H0 s) a5.defers .returning w5
   rw[hi5.defers,hd]
   refine leaves_cons (f:=116) (args:=c) (by simp) (Qkz c _) ?_
   rw[←hc5]
   refine(QlE hS hi5.heap hi5.nores (hgn hi5)).mono ?_
   rintro z u' w6 ⟨⟨v2,rfl⟩,rfl,g6,hw6,hH6,hn6⟩
   show Leaves Tryz.prog Tryz.f66 a5.tmps (DRes g0 w0 H0 s) [] .returning w6
   have hwk:=Inv.weak hi5 (T:= [.undef,.undef,.ptr H0.length 0,.ptr (H0.length+1) 0,.ptr (H0.length+2) 0]++Qj7) rfl fun i x hx=>by
    match i,hx with
    |0,hx=>cases hx;exact .inl rfl
    |1,hx=>cases hx;exact .inl rfl
    |2,hx=>cases hx;exact .inr rfl
    |3,hx=>cases hx;exact .inr rfl
    |4,hx=>cases hx;exact .inr rfl
    |k+5,hx=>
     have:Qj7[k]? =some x:=hx
     exact .inl (List.eq_of_mem_replicate (List.mem_of_getElem? this))
   have him:=Inv.move hwk hw6 hH6 hn6 fun x hx xs=>by
    rcases List.mem_append.1 hx with h|h
    ·simp only[List.mem_cons,List.not_mem_nil,or_false]at h
     rcases h with rfl|rfl|rfl|rfl|rfl<;>simp
    ·rw[List.eq_of_mem_replicate h];simp
   refine QjO h0 (((((hw.trans hw1).trans hw2).trans hw3).trans hw4).trans hw5|>.trans hw6) him (j:=(QaD j).d) (e:=0) (p:=0) ?_ (Ext4 (K:=H0) (Nat.le_refl _) _) (by rw[hds])
   obtain⟨K,kk,k1,k2,k3,k4,_⟩:=four H0
   rw[←kk,jd]
   simp only[Qbw,List.cons_append,List.nil_append,List.getD_cons_succ,List.getD_cons_zero,k1,k2,k3]
   rfl
theorem Qnj(h0:HeapOK g0 H0 w0){g:Gh}{st:St}{a:Act}{w:World}(hw:WF g0 w0 g w)(hi:Inv g st a w){j:D}{e p:Int}(hr:Qbw st.T st.H [.cell 2 true 5,.cell 3 false 1,.cell 4 false 1]=some [.d j,intD e,intD p])(hx:Ext H0.length H0 st.H)
  (hd:Qgi (QbT s)= .tuple [.d j,intD e,intD p]):Leaves Tryz.prog Tryz.f66 a.tmps (DRes g0 w0 H0 s) a.defers .returning w:=by
 rw[hi.defers]
 exact QjO h0 hw hi hr hx hd
theorem Qnm(hS:EnvS Tryz.prog pf X0 XP)(h0:HeapOK g0 H0 w0)(hn:∀b,g0.own b≠ .res){v0:AV}(hb:Qha H0 v0=some s){vals:Array Value}(hv0:1=vals.size)(hv:∀(i:Nat) x v,[v0][i]? =some x→vals[i]? =some v→VR g0 w0 x v∧FOK g0 w0 (.slot i) x v):
  Calls Tryz.prog 66 vals w0 (DRes g0 w0 H0 s):=by
 refine calls_of_wp_defers Tryz.func66 body10 ?_
 rw[nt10,b10_eq]
 have hll0:H0.length≤H0.length:=Nat.le_refl _
 have hll3:∀(a b c:AObj),H0.length≤(H0++ [a,b,c]).length:=fun _ _ _=>by simp
 have hll:∀(a b c d:AObj),H0.length≤(H0++ [a,b,c,d]).length:=fun _ _ _ _=>by simp
 have hi0:Inv g0 ⟨_,H0⟩ { tmps:=vals++Array.replicate (49-vals.size) undef,defers:= [] } w0:=QcC (args:= [v0]) h0 hn hv0 hv 49
 refine wp_seq (Qei hS k10_0 rfl hi0 hll0 (v10_0 (fun _=> .tuple [])) ?_ (fun _ h=>h.elim))
 rintro z st1 g1 a1 w1 ⟨rfl,x1,rfl⟩ hw1 hi1 hx1
 show Code.wp Tryz.prog (.seq (.seq p10_1 _) _) _ a1 w1
 refine wp_seq (wp_seq (Qei hS k10_1 rfl hi1 (hll3 _ _ _) (v10_1 (lim:=H0.length) (K:=H0++ [zO,nO 0,nO 0]) (n:=H0.length) x1 hb) ?_ (fun _ h=>h.elim)))
 rintro z st2 g2 a2 w2 ⟨rfl,x2,rfl⟩ hw2 hi2 hx2
 show Code.wp Tryz.prog (.cond (.tmp 9) _ _) _ a2 w2
 refine wp_cond (Inv.boolD' (b:=decide (16384<s.length)) hi2 rfl) ?_
 by_cases hs:16384<s.length
 ·have hds:QbT s= .error (13,16384):=by unfold QbT;rw[if_pos hs]
  rw[decide_eq_true hs,if_pos rfl]
  refine wp_seq (Qei hS k10_2 rfl hi2 (hll3 _ _ _) (v10_2 (fun i=>if i=0 then v0 else if i=9 then boolD (decide (16384<s.length))else x2 i) hll0) ?_ (fun _ h=>h.elim))
  rintro z st3 g3 a3 w3 ⟨rfl,x3,rfl⟩ hw3 hi3 hx3
  refine wp_ret ?_
  refine Qnj h0 ((hw1.trans hw2).trans hw3) hi3 (j:=J.zero.d) (e:=13) (p:=16384) ?_ (Ext4 (K:=H0) (Nat.le_refl _) _) (by rw[hds];rfl)
  obtain⟨K,kk,k1,k2,k3,_⟩:=three H0
  rw[←kk]
  simp only[Qbw,List.getD_cons_succ,List.getD_cons_zero,k1,k2,k3]
  rfl
 have hs':s.length≤16384:=by omega
 rw[decide_eq_false hs,if_neg (by simp)]
 refine wp_skip ?_
 show Code.wp Tryz.prog (.seq p10_3 _) _ a2 w2
 refine wp_seq (Qei hS k10_3 rfl hi2 (hll3 _ _ _) (v10_3 (fun i=>if i=9 then boolD (decide (16384<s.length))else x2 i) hb) ?_ (fun _ h=>h.elim))
 rintro z st3 g3 a3 w3 ⟨rfl,x3,rfl⟩ hw3 hi3 hx3
 show Code.wp Tryz.prog (.seq (.seq p10_4 _) _) _ a3 w3
 refine wp_seq (wp_seq (Qei hS k10_4 rfl hi3 (hll _ _ _ _) (v10_4 (lim:=H0.length) x3 hs') ?_ (fun _ h=>h.elim)))
 rintro z st4 g4 a4 w4 ⟨rfl,x4,rfl⟩ hw4 hi4 hx4
 show Code.wp Tryz.prog (.seq p10_5 _) _ a4 w4
 refine wp_seq (Qei hS k10_5 rfl hi4 (hll _ _ _ _) (v10_5 (lim:=H0.length) (K:=H0++ [zO,nO 0,nO 0,rdO s (0:Nat)]) (n:=H0.length) (b:=QaV s) x4) ?_ (fun _ h=>h.elim))
 rintro z st5 g5 a5 w5 ⟨rfl,x5,rfl⟩ hw5 hi5 hx5
 show Code.wp Tryz.prog (.cond (.tmp 21) _ _) _ a5 w5
 refine wp_cond (Inv.boolD' (b:=decide (QaV s≥0)) hi5 rfl) ?_
 have hw15:=(((hw1.trans hw2).trans hw3).trans hw4).trans hw5
 by_cases hbr:0≤QaV s
 ·have hds:QbT s= .error (10,(QaV s).toNat):=by unfold QbT;rw[if_neg hs,if_pos hbr]
  have hnb:((QaV s).toNat:Int)=QaV s:=by omega
  rw[decide_eq_true hbr,if_pos rfl]
  refine wp_seq (Qei hS k10_6 rfl hi5 (hll _ _ _ _) (v10_6 (s:=s) (fun i=>if i=21 then boolD (decide (QaV s≥0))else x5 i) hll0) ?_ (fun _ h=>h.elim))
  rintro z st6 g6 a6 w6 ⟨rfl,x6,rfl⟩ hw6 hi6 hx6
  refine wp_ret ?_
  refine Qnj h0 (hw15.trans hw6) hi6 (j:=J.zero.d) (e:=10) (p:=QaV s) ?_ (Ext4 (K:=H0) (Nat.le_refl _) _) (by rw[hds];show AV.tuple [_,_,intD ((QaV s).toNat:Int)]=_;rw[hnb];rfl)
  obtain⟨K,kk,k1,k2,k3,k4,_⟩:=four H0
  rw[←kk]
  simp only[Qbw,List.getD_cons_succ,List.getD_cons_zero,k1,k2,k3]
  rfl
 rw[decide_eq_false hbr,if_neg (by simp)]
 refine wp_skip ?_
 show Code.wp Tryz.prog (.seq QfO restC) _ a5 w5
 rw[r7x_eq]
 refine wp_seq (wp_region_list ?_)
 refine Qbn (lim:=H0.length) (E:=X0 0) c7_0 (hS.e 0) hi5 (hll _ _ _ _) (show stepOp _ _ _ _=some ⟨(D5 H0.length fun i=>if i=6 then intD (QaV s)else if i=21 then boolD (decide (QaV s≥0))else x5 i).set 24 (.func (.func 116) [.ptr H0.length 0,.ptr (H0.length+1) 0,.ptr (H0.length+2) 0]),_⟩from rfl) ?_
 intro g6 a6 w6 hw6 hi6 hx6
 refine Qlt o7_1.2.1 o7_1.1 (f:=116) (cap:=caps g6 H0.length) (Inv.funcD (n:=H0.length) hi6 rfl) ?_
 rw[o7_1.2.2]
 refine @dec_rest g0 w0 H0 s ⟨[dcl (caps g6 H0.length)]⟩ hS h0 (caps g6 H0.length) rfl hs' hbr g6 _ w6 (fun i=>if i=6 then intD (QaV s)else if i=21 then boolD (decide (QaV s≥0))else if i=24 then .func (.func 116) [.ptr H0.length 0,.ptr (H0.length+1) 0,.ptr (H0.length+2) 0]else x5 i) (hw15.trans hw6) rfl ?_
 exact @Go.Abs.Inv.mk tabs ⟨[dcl (caps g6 H0.length)]⟩ _ _ _ _ hi6.heap hi6.size hi6.tok hi6.nores (by show _::a6.defers=_;rw[hi6.defers];rfl)
theorem QiS:FSound Tryz.prog 66 QjN:=by
 intro lim args H a H' h hlim
 unfold QjN at h
 split at h
 ·rename_i v0
  simp only[Option.map_eq_some_iff]at h
  obtain⟨s,hb,h⟩:=h
  simp only[Prod.mk.injEq]at h
  obtain⟨rfl,rfl⟩:=h
  refine⟨Ext.refl _ _,fun vals g w hH hn hv0 hv=> .inl ⟨fn10,(Qnm hS0 hH hn hb hv0 hv).mono ?_⟩⟩
  rintro e w' ⟨v,g',rfl,h1,h2,h3⟩
  refine⟨v,g',rfl,h1,h2,h3,FOK.ne ?_⟩
  cases QbT s<;>simp[Qgi]
 ·cases h
end
end Go.Proofs.YtfoiaojdnmpgmaaGreatDoor
set_option maxHeartbeats 1000000
namespace Go.Proofs.YtfoiaojdnmpgmaaGreatDoor
open Go Go.Abs Go.Proofs Go.RowKit Go.Lib
theorem Qic:∀f F,QbO f=some F→FSound Tryz.prog f F:=fun f F h=>by
 unfold QbO at h
 split at h
 ·rename_i hf;subst hf;cases h;exact QiS
 ·exact Qif f F h
theorem Qid:QcW QbO (fun _=>none):=fun f FP h=>by cases h
theorem hSD:EnvS Tryz.prog pf (QaE code QbO) (QbZ code pf QbO (fun _=>none)):=EnvS.slim Qe9 Qic (fun f F h=>by cases h) Qid QeL
section
variable {H:Qab} (x:Nat→AV)
theorem ib_ev(lim:Nat)(H:Qab)(s:Tx)(c:UInt8):Ev (QaE code QbO) 189 lim [.d (.str s),.d (Qai c)] H (.d (.int .i64 (Lib.indexByte s c))) H:=by
 refine Fn.ev ?_
 refine QbU (pn rfl) rfl (show code 189=some c189 from rfl) rfl ?_;simp only[List.length_cons,List.length_nil,List.cons_append,List.nil_append,simprocAttr]
 have h:Ev (QaE code QbO) 203 H.length [.d (.str s),.d (Qai c)] H (.d (.int .i64 (Lib.indexByte s c))) H:=QeQ (F:=QbI) rfl (by
  unfold QbI Qai
  simp)
 refine w_r trivial ?_
 refine w_1 h trivial ?_
 refine w_r trivial ?_
 exact Qah (vs:= [.d (.int .i64 (Lib.indexByte s c))]) rfl rfl ⟨rfl,rfl⟩
theorem v9_0(s:Tx)(c:UInt8):W (QaE code QbO) 0 Qmh ⟨[.d (.str s),.d (.str [c]),x 2,x 3,x 4,x 5,x 6,x 7,x 8,x 9,x 10,x 11,x 12,x 13,x 14,x 15,x 16,x 17,x 18,x 19,x 20,x 21,x 22,x 23,x 24,x 25,x 26,x 27,x 28,x 29,x 30,x 31,x 32,x 33,x 34,x 35,x 36,x 37,x 38,x 39,x 40,x 41,x 42,x 43,x 44,x 45,x 46,x 47,x 48,x 49,x 50,x 51,x 52,x 53,x 54,x 55,x 56,x 57,x 58,x 59,x 60,x 61,x 62,x 63,x 64,x 65,x 66,x 67,x 68,x 69,x 70,x 71,x 72,x 73,x 74,x 75,x 76,x 77,x 78,x 79,x 80,x 81,x 82,x 83,x 84,x 85,x 86,x 87,x 88,x 89,x 90,x 91,x 92,x 93,x 94,x 95,x 96,x 97,x 98,x 99,x 100,x 101,x 102,x 103,x 104,x 105,x 106,x 107,x 108,x 109,x 110,x 111,x 112,x 113,x 114,x 115,x 116,x 117,x 118,x 119,x 120,x 121,x 122,x 123,x 124,x 125,x 126,x 127,x 128,x 129,x 130,x 131,x 132,x 133,x 134,x 135,x 136,x 137,x 138,x 139,x 140,x 141,x 142],H⟩ (fun e st=>e= .normal∧∃x:Nat→AV,st=⟨[.d (.str s),.d (.str [c]),x 2,x 3,x 4,x 5,x 6,x 7,x 8,x 9,x 10,x 11,x 12,x 13,x 14,x 15,x 16,x 17,x 18,x 19,x 20,x 21,x 22,x 23,x 24,x 25,x 26,x 27,x 28,x 29,x 30,x 31,x 32,x 33,x 34,x 35,x 36,x 37,x 38,x 39,x 40,x 41,x 42,x 43,x 44,x 45,x 46,x 47,x 48,x 49,x 50,x 51,x 52,x 53,x 54,x 55,x 56,x 57,x 58,x 59,x 60,x 61,x 62,x 63,x 64,x 65,x 66,x 67,x 68,x 69,x 70,x 71,x 72,x 73,x 74,x 75,x 76,x 77,x 78,x 79,x 80,x 81,x 82,x 83,x 84,x 85,x 86,x 87,x 88,x 89,x 90,x 91,x 92,x 93,x 94,x 95,x 96,x 97,x 98,x 99,x 100,x 101,x 102,x 103,x 104,x 105,x 106,x 107,x 108,x 109,x 110,x 111,x 112,x 113,x 114,x 115,x 116,x 117,x 118,x 119,x 120,x 121,x 122,x 123,x 124,x 125,x 126,x 127,x 128,x 129,x 130,x 131,x 132,x 133,x 134,x 135,x 136,x 137,x 138,x 139,x 140,x 141,x 142],H⟩):=by
 unfold Qmh
 refine w_r trivial ?_
 exact⟨by first|exact trivial|exact rfl,QaC _ _ _ rfl⟩
theorem v9_1(s:Tx)(c:UInt8):W (QaE code QbO) 0 Qmg ⟨[.d (.str s),.d (.str [c]),x 2,x 3,x 4,x 5,x 6,x 7,x 8,x 9,x 10,x 11,x 12,x 13,x 14,x 15,x 16,x 17,x 18,x 19,x 20,x 21,x 22,x 23,x 24,x 25,x 26,x 27,x 28,x 29,x 30,x 31,x 32,x 33,x 34,x 35,x 36,x 37,x 38,x 39,x 40,x 41,x 42,x 43,x 44,x 45,x 46,x 47,x 48,x 49,x 50,x 51,x 52,x 53,x 54,x 55,x 56,x 57,x 58,x 59,x 60,x 61,x 62,x 63,x 64,x 65,x 66,x 67,x 68,x 69,x 70,x 71,x 72,x 73,x 74,x 75,x 76,x 77,x 78,x 79,x 80,x 81,x 82,x 83,x 84,x 85,x 86,x 87,x 88,x 89,x 90,x 91,x 92,x 93,x 94,x 95,x 96,x 97,x 98,x 99,x 100,x 101,x 102,x 103,x 104,x 105,x 106,x 107,x 108,x 109,x 110,x 111,x 112,x 113,x 114,x 115,x 116,x 117,x 118,x 119,x 120,x 121,x 122,x 123,x 124,x 125,x 126,x 127,x 128,x 129,x 130,x 131,x 132,x 133,x 134,x 135,x 136,x 137,x 138,x 139,x 140,x 141,x 142],H⟩ (fun e st=>e= .normal∧∃x:Nat→AV,st=⟨[.d (.str s),.d (.str [c]),x 2,x 3,x 4,intD 1,x 6,x 7,x 8,x 9,x 10,x 11,x 12,x 13,x 14,x 15,x 16,x 17,x 18,x 19,x 20,x 21,x 22,x 23,x 24,x 25,x 26,x 27,x 28,x 29,x 30,x 31,x 32,x 33,x 34,x 35,x 36,x 37,x 38,x 39,x 40,x 41,x 42,x 43,x 44,x 45,x 46,x 47,x 48,x 49,x 50,x 51,x 52,x 53,x 54,x 55,x 56,x 57,x 58,x 59,x 60,x 61,x 62,x 63,x 64,x 65,x 66,x 67,x 68,x 69,x 70,x 71,x 72,x 73,x 74,x 75,x 76,x 77,x 78,x 79,x 80,x 81,x 82,x 83,x 84,x 85,x 86,x 87,x 88,x 89,x 90,x 91,x 92,x 93,x 94,x 95,x 96,x 97,x 98,x 99,x 100,x 101,x 102,x 103,x 104,x 105,x 106,x 107,x 108,x 109,x 110,x 111,x 112,x 113,x 114,x 115,x 116,x 117,x 118,x 119,x 120,x 121,x 122,x 123,x 124,x 125,x 126,x 127,x 128,x 129,x 130,x 131,x 132,x 133,x 134,x 135,x 136,x 137,x 138,x 139,x 140,x 141,x 142],H⟩):=by
 unfold Qmg
 refine w_r trivial ?_
 exact⟨by first|exact trivial|exact rfl,QaC _ _ _ rfl⟩
theorem v9_2(s:Tx)(c:UInt8)(b:Bool)(hb:(([c]:Tx)==s)=b):W (QaE code QbO) 0 Qmf ⟨[.d (.str s),.d (.str [c]),x 2,x 3,x 4,intD 1,x 6,x 7,x 8,x 9,x 10,x 11,x 12,x 13,x 14,x 15,x 16,x 17,x 18,x 19,x 20,x 21,x 22,x 23,x 24,x 25,x 26,x 27,x 28,x 29,x 30,x 31,x 32,x 33,x 34,x 35,x 36,x 37,x 38,x 39,x 40,x 41,x 42,x 43,x 44,x 45,x 46,x 47,x 48,x 49,x 50,x 51,x 52,x 53,x 54,x 55,x 56,x 57,x 58,x 59,x 60,x 61,x 62,x 63,x 64,x 65,x 66,x 67,x 68,x 69,x 70,x 71,x 72,x 73,x 74,x 75,x 76,x 77,x 78,x 79,x 80,x 81,x 82,x 83,x 84,x 85,x 86,x 87,x 88,x 89,x 90,x 91,x 92,x 93,x 94,x 95,x 96,x 97,x 98,x 99,x 100,x 101,x 102,x 103,x 104,x 105,x 106,x 107,x 108,x 109,x 110,x 111,x 112,x 113,x 114,x 115,x 116,x 117,x 118,x 119,x 120,x 121,x 122,x 123,x 124,x 125,x 126,x 127,x 128,x 129,x 130,x 131,x 132,x 133,x 134,x 135,x 136,x 137,x 138,x 139,x 140,x 141,x 142],H⟩ (fun e st=>e= .normal∧∃x:Nat→AV,st=⟨[.d (.str s),.d (.str [c]),x 2,x 3,x 4,intD 1,x 6,x 7,x 8,x 9,x 10,x 11,x 12,x 13,x 14,x 15,boolD b,x 17,x 18,x 19,x 20,x 21,x 22,x 23,x 24,x 25,x 26,x 27,x 28,x 29,x 30,x 31,x 32,x 33,x 34,x 35,x 36,x 37,x 38,x 39,x 40,x 41,x 42,x 43,x 44,x 45,x 46,x 47,x 48,x 49,x 50,x 51,x 52,x 53,x 54,x 55,x 56,x 57,x 58,x 59,x 60,x 61,x 62,x 63,x 64,x 65,x 66,x 67,x 68,x 69,x 70,x 71,x 72,x 73,x 74,x 75,x 76,x 77,x 78,x 79,x 80,x 81,x 82,x 83,x 84,x 85,x 86,x 87,x 88,x 89,x 90,x 91,x 92,x 93,x 94,x 95,x 96,x 97,x 98,x 99,x 100,x 101,x 102,x 103,x 104,x 105,x 106,x 107,x 108,x 109,x 110,x 111,x 112,x 113,x 114,x 115,x 116,x 117,x 118,x 119,x 120,x 121,x 122,x 123,x 124,x 125,x 126,x 127,x 128,x 129,x 130,x 131,x 132,x 133,x 134,x 135,x 136,x 137,x 138,x 139,x 140,x 141,x 142],H⟩):=by
 unfold Qmf
 refine w_r hb ?_
 exact⟨by first|exact trivial|exact rfl,QaC _ _ _ rfl⟩
theorem v9_3(s:Tx)(c:UInt8)(b:Bool):W (QaE code QbO) 0 Qme ⟨[.d (.str s),.d (.str [c]),x 2,x 3,x 4,intD 1,x 6,x 7,x 8,x 9,x 10,x 11,x 12,x 13,x 14,x 15,boolD b,x 17,x 18,x 19,x 20,x 21,x 22,x 23,x 24,x 25,x 26,x 27,x 28,x 29,x 30,x 31,x 32,x 33,x 34,x 35,x 36,x 37,x 38,x 39,x 40,x 41,x 42,x 43,x 44,x 45,x 46,x 47,x 48,x 49,x 50,x 51,x 52,x 53,x 54,x 55,x 56,x 57,x 58,x 59,x 60,x 61,x 62,x 63,x 64,x 65,x 66,x 67,x 68,x 69,x 70,x 71,x 72,x 73,x 74,x 75,x 76,x 77,x 78,x 79,x 80,x 81,x 82,x 83,x 84,x 85,x 86,x 87,x 88,x 89,x 90,x 91,x 92,x 93,x 94,x 95,x 96,x 97,x 98,x 99,x 100,x 101,x 102,x 103,x 104,x 105,x 106,x 107,x 108,x 109,x 110,x 111,x 112,x 113,x 114,x 115,x 116,x 117,x 118,x 119,x 120,x 121,x 122,x 123,x 124,x 125,x 126,x 127,x 128,x 129,x 130,x 131,x 132,x 133,x 134,x 135,x 136,x 137,x 138,x 139,x 140,x 141,x 142],H⟩ (fun e st=>e= .normal∧∃x:Nat→AV,st=⟨[x 0,x 1,x 2,x 3,intD 0,x 5,x 6,x 7,x 8,x 9,x 10,x 11,x 12,x 13,x 14,x 15,x 16,x 17,x 18,x 19,x 20,x 21,x 22,x 23,x 24,x 25,x 26,x 27,x 28,x 29,x 30,x 31,x 32,x 33,x 34,x 35,x 36,x 37,x 38,x 39,x 40,x 41,x 42,x 43,x 44,x 45,x 46,x 47,x 48,x 49,x 50,x 51,x 52,x 53,x 54,x 55,x 56,x 57,x 58,x 59,x 60,x 61,x 62,x 63,x 64,x 65,x 66,x 67,x 68,x 69,x 70,x 71,x 72,x 73,x 74,x 75,x 76,x 77,x 78,x 79,x 80,x 81,x 82,x 83,x 84,x 85,x 86,x 87,x 88,x 89,x 90,x 91,x 92,x 93,x 94,x 95,x 96,x 97,x 98,x 99,x 100,x 101,x 102,x 103,x 104,x 105,x 106,x 107,x 108,x 109,x 110,x 111,x 112,x 113,x 114,x 115,x 116,x 117,x 118,x 119,x 120,x 121,x 122,x 123,x 124,x 125,x 126,x 127,x 128,x 129,x 130,x 131,x 132,x 133,x 134,x 135,x 136,x 137,x 138,x 139,x 140,x 141,x 142],H⟩):=by
 unfold Qme
 refine w_r trivial ?_
 exact⟨by first|exact trivial|exact rfl,QaC _ _ _ rfl⟩
theorem v9_4(s:Tx)(c:UInt8)(b:Bool):W (QaE code QbO) 0 Qmd ⟨[.d (.str s),.d (.str [c]),x 2,x 3,x 4,intD 1,x 6,x 7,x 8,x 9,x 10,x 11,x 12,x 13,x 14,x 15,boolD b,x 17,x 18,x 19,x 20,x 21,x 22,x 23,x 24,x 25,x 26,x 27,x 28,x 29,x 30,x 31,x 32,x 33,x 34,x 35,x 36,x 37,x 38,x 39,x 40,x 41,x 42,x 43,x 44,x 45,x 46,x 47,x 48,x 49,x 50,x 51,x 52,x 53,x 54,x 55,x 56,x 57,x 58,x 59,x 60,x 61,x 62,x 63,x 64,x 65,x 66,x 67,x 68,x 69,x 70,x 71,x 72,x 73,x 74,x 75,x 76,x 77,x 78,x 79,x 80,x 81,x 82,x 83,x 84,x 85,x 86,x 87,x 88,x 89,x 90,x 91,x 92,x 93,x 94,x 95,x 96,x 97,x 98,x 99,x 100,x 101,x 102,x 103,x 104,x 105,x 106,x 107,x 108,x 109,x 110,x 111,x 112,x 113,x 114,x 115,x 116,x 117,x 118,x 119,x 120,x 121,x 122,x 123,x 124,x 125,x 126,x 127,x 128,x 129,x 130,x 131,x 132,x 133,x 134,x 135,x 136,x 137,x 138,x 139,x 140,x 141,x 142],H⟩ (fun e st=>e= .normal∧∃x:Nat→AV,st=⟨[.d (.str s),.d (.str [c]),x 2,x 3,x 4,intD 1,x 6,x 7,x 8,x 9,x 10,x 11,x 12,x 13,x 14,x 15,x 16,x 17,x 18,x 19,x 20,x 21,x 22,x 23,boolD true,x 25,x 26,x 27,x 28,x 29,x 30,x 31,x 32,x 33,x 34,x 35,x 36,x 37,x 38,x 39,x 40,x 41,x 42,x 43,x 44,x 45,x 46,x 47,x 48,x 49,x 50,x 51,x 52,x 53,x 54,x 55,x 56,x 57,x 58,x 59,x 60,x 61,x 62,x 63,x 64,x 65,x 66,x 67,x 68,x 69,x 70,x 71,x 72,x 73,x 74,x 75,x 76,x 77,x 78,x 79,x 80,x 81,x 82,x 83,x 84,x 85,x 86,x 87,x 88,x 89,x 90,x 91,x 92,x 93,x 94,x 95,x 96,x 97,x 98,x 99,x 100,x 101,x 102,x 103,x 104,x 105,x 106,x 107,x 108,x 109,x 110,x 111,x 112,x 113,x 114,x 115,x 116,x 117,x 118,x 119,x 120,x 121,x 122,x 123,x 124,x 125,x 126,x 127,x 128,x 129,x 130,x 131,x 132,x 133,x 134,x 135,x 136,x 137,x 138,x 139,x 140,x 141,x 142],H⟩):=by
 unfold Qmd
 refine w_r trivial ?_
 exact⟨by first|exact trivial|exact rfl,QaC _ _ _ rfl⟩
theorem v9_5(s:Tx)(c:UInt8):W (QaE code QbO) 0 Qmc ⟨[.d (.str s),.d (.str [c]),x 2,x 3,x 4,intD 1,x 6,x 7,x 8,x 9,x 10,x 11,x 12,x 13,x 14,x 15,x 16,x 17,x 18,x 19,x 20,x 21,x 22,x 23,boolD true,x 25,x 26,x 27,x 28,x 29,x 30,x 31,x 32,x 33,x 34,x 35,x 36,x 37,x 38,x 39,x 40,x 41,x 42,x 43,x 44,x 45,x 46,x 47,x 48,x 49,x 50,x 51,x 52,x 53,x 54,x 55,x 56,x 57,x 58,x 59,x 60,x 61,x 62,x 63,x 64,x 65,x 66,x 67,x 68,x 69,x 70,x 71,x 72,x 73,x 74,x 75,x 76,x 77,x 78,x 79,x 80,x 81,x 82,x 83,x 84,x 85,x 86,x 87,x 88,x 89,x 90,x 91,x 92,x 93,x 94,x 95,x 96,x 97,x 98,x 99,x 100,x 101,x 102,x 103,x 104,x 105,x 106,x 107,x 108,x 109,x 110,x 111,x 112,x 113,x 114,x 115,x 116,x 117,x 118,x 119,x 120,x 121,x 122,x 123,x 124,x 125,x 126,x 127,x 128,x 129,x 130,x 131,x 132,x 133,x 134,x 135,x 136,x 137,x 138,x 139,x 140,x 141,x 142],H⟩ (fun e st=>e= .normal∧∃x:Nat→AV,st=⟨[x 0,x 1,x 2,x 3,.d (.int .i64 (Lib.indexByte s c)),x 5,x 6,x 7,x 8,x 9,x 10,x 11,x 12,x 13,x 14,x 15,x 16,x 17,x 18,x 19,x 20,x 21,x 22,x 23,x 24,x 25,x 26,x 27,x 28,x 29,x 30,x 31,x 32,x 33,x 34,x 35,x 36,x 37,x 38,x 39,x 40,x 41,x 42,x 43,x 44,x 45,x 46,x 47,x 48,x 49,x 50,x 51,x 52,x 53,x 54,x 55,x 56,x 57,x 58,x 59,x 60,x 61,x 62,x 63,x 64,x 65,x 66,x 67,x 68,x 69,x 70,x 71,x 72,x 73,x 74,x 75,x 76,x 77,x 78,x 79,x 80,x 81,x 82,x 83,x 84,x 85,x 86,x 87,x 88,x 89,x 90,x 91,x 92,x 93,x 94,x 95,x 96,x 97,x 98,x 99,x 100,x 101,x 102,x 103,x 104,x 105,x 106,x 107,x 108,x 109,x 110,x 111,x 112,x 113,x 114,x 115,x 116,x 117,x 118,x 119,x 120,x 121,x 122,x 123,x 124,x 125,x 126,x 127,x 128,x 129,x 130,x 131,x 132,x 133,x 134,x 135,x 136,x 137,x 138,x 139,x 140,x 141,x 142],H⟩):=by
 unfold Qmc
 have h:=ib_ev 0 H s c
 refine w_1 h trivial ?_
 exact⟨by first|exact trivial|exact rfl,QaC _ _ _ rfl⟩
end
theorem fn209:QhU Tryz.prog 209:=⟨_,Tryz.func209,by kernel_rfl,by kernel_rfl⟩
theorem body209:Tryz.f209.body=some Qnx:=by kernel_rfl
theorem nt209:Tryz.f209.ntmps=143:=by kernel_rfl
theorem res209:QaO Tryz.prog Tryz.f209.results.toList=some [.t 4]:=by kernel_rfl
theorem b209_eq:Qnx= .seq p209_0 (.seq p209_1 (.seq (.block 0 (.seq p209_2 (.cond (.tmp 16) (.seq p209_3 .ret) (.seq p209_4 (.cond (.tmp 24) (.seq p209_5 .ret) p209_7))))) p209_8)):=by kernel_rfl
theorem Qlp:FSound Tryz.prog 209 idx1F:=by
 intro lim args H a H' h hlim
 obtain⟨s,c,rfl,rfl,rfl⟩:∃s c,args= [.d (.str s),.d (.str [c])]∧a= .d (.int .i64 (Lib.indexByte s c))∧H'=H:=by
  unfold idx1F at h
  split at h
  ·simp only[Option.some.injEq,Prod.mk.injEq]at h
   exact⟨_,_,rfl,h.1.symm,h.2.symm⟩
  ·cases h
 refine⟨Ext.refl _ _,fun vals g w hH hn hv0 hv=> .inl ⟨fn209, ?_⟩⟩
 refine calls_of_wp Tryz.func209 body209 ?_
 rw[nt209,b209_eq]
 have hi:Inv g ⟨_,H'⟩ { tmps:=vals++Array.replicate (143-vals.size) undef,defers:= [] } w:=QcC (args:= [.d (.str s),.d (.str [c])]) hH hn hv0 hv 143
 refine Qel hSD k209_0 hi (v9_0 (fun _=> .tuple []) s c) ?_
 rintro _ g1 a1 w1 ⟨x,rfl⟩ hw1 hi1
 refine Qel hSD k209_1 hi1 (v9_1 x s c) ?_
 rintro _ g2 a2 w2 ⟨x,rfl⟩ hw2 hi2
 refine wp_seq (wp_block ?_)
 refine Qel hSD k209_2 hi2 (v9_2 x s c _ rfl) ?_
 rintro _ g3 a3 w3 ⟨x,rfl⟩ hw3 hi3
 have hw:=(hw1.trans hw2).trans hw3
 have fin:∀ {g':Gh} {a':Act} {w':World} {x:Nat→AV} {n:Int},n=Lib.indexByte s c→WF g w g' w'→Abs.Inv g' ⟨[x 0,x 1,x 2,x 3,.d (.int .i64 n),x 5,x 6,x 7,x 8,x 9,x 10,x 11,x 12,x 13,x 14,x 15,x 16,x 17,x 18,x 19,x 20,x 21,x 22,x 23,x 24,x 25,x 26,x 27,x 28,x 29,x 30,x 31,x 32,x 33,x 34,x 35,x 36,x 37,x 38,x 39,x 40,x 41,x 42,x 43,x 44,x 45,x 46,x 47,x 48,x 49,x 50,x 51,x 52,x 53,x 54,x 55,x 56,x 57,x 58,x 59,x 60,x 61,x 62,x 63,x 64,x 65,x 66,x 67,x 68,x 69,x 70,x 71,x 72,x 73,x 74,x 75,x 76,x 77,x 78,x 79,x 80,x 81,x 82,x 83,x 84,x 85,x 86,x 87,x 88,x 89,x 90,x 91,x 92,x 93,x 94,x 95,x 96,x 97,x 98,x 99,x 100,x 101,x 102,x 103,x 104,x 105,x 106,x 107,x 108,x 109,x 110,x 111,x 112,x 113,x 114,x 115,x 116,x 117,x 118,x 119,x 120,x 121,x 122,x 123,x 124,x 125,x 126,x 127,x 128,x 129,x 130,x 131,x 132,x 133,x 134,x 135,x 136,x 137,x 138,x 139,x 140,x 141,x 142],H'⟩ a' w'→bodyPost Tryz.prog Tryz.f209 (fun e w'=>∃v g',e= .returned v∧WF g w g' w'∧HeapOK g' H' w'∧VR g' w' (.d (.int .i64 (Lib.indexByte s c))) v∧FOK g' w' .res (.d (.int .i64 (Lib.indexByte s c))) v) .ret a' w':=by
  rintro g' a' w' x n rfl hw hi
  obtain⟨v,h1,h2,_⟩:=Qeq hi res209 (vs:= [.d (.int .i64 (Lib.indexByte s c))]) rfl
  exact⟨hi.defers,v,h1,v,g',rfl,hw,hi.heap,h2,FOK.triv (Triv.d _ _)⟩
 cases hb:(([c]:Tx)==s)with
 |true=>
  rw[hb]at hi3
  refine wp_cond_true (Inv.bool hi3 rfl) ?_
  refine Qel hSD k209_3 hi3 (v9_3 x s c true) ?_
  rintro _ g4 a4 w4 ⟨x,rfl⟩ hw4 hi4
  have e:([c]:Tx)=s:=by simpa using hb
  refine wp_ret (fin (n:=0) ?_ (hw.trans hw4) hi4)
  rw[←e];simp[Lib.indexByte]
 |false=>
  rw[hb]at hi3
  refine wp_cond_false (Inv.bool hi3 rfl) ?_
  refine Qel hSD k209_4 hi3 (v9_4 x s c false) ?_
  rintro _ g4 a4 w4 ⟨x,rfl⟩ hw4 hi4
  refine wp_cond_true (Inv.bool hi4 rfl) ?_
  refine Qel hSD k209_5 hi4 (v9_5 x s c) ?_
  rintro _ g5 a5 w5 ⟨x,rfl⟩ hw5 hi5
  exact wp_ret (fin rfl ((hw.trans hw4).trans hw5) hi5)
theorem Qia:∀f F,Qib f=some F→FSound Tryz.prog f F:=fun f F h=>by
 unfold Qib at h
 split at h
 ·rename_i hf;subst hf;cases h;exact Qlp
 ·exact Qic f F h
end Go.Proofs.YtfoiaojdnmpgmaaGreatDoor
set_option maxRecDepth 1000000
namespace Go.Proofs.YtfoiaojdnmpgmaaGreatDoor
open Go Go.Abs
theorem QjU:QaE code Qib 60 42 0 [] []=some (boolD true,[]):=by kernel_rfl
theorem QhR:FSound Tryz.prog 42 Qny:=
 QiU (d:= .bool true) Qe9 Qia QeL (k:=60) rfl QjU
theorem Qkh:∀f F,Qa3 f=some F→FSound Tryz.prog f F:=fun f F h=>by
 unfold Qa3 at h
 split at h
 ·rename_i hf
  subst hf;cases h;exact QhR
 ·exact Qia f F h
end Go.Proofs.YtfoiaojdnmpgmaaGreatDoor
namespace Go.Abs
open Go.RowKit
variable [Tab]
theorem Qim{P:Program}{w:World}{t e:TypeId}(ht:P.underlying t=some (.slice e))(he:P.underlying e=some (.int .u8))(hs:P.cellsOf e=1)(hb:P.bytesOf e=1):Opens P w t fun ds=>∃s:List UInt8,ds= [.slice (s.map Qai)]∧s.length≤reachBytes:=fun fuel H enc base sp hd cs x h hw=>by
 obtain⟨ds,⟨s,rfl,_⟩,hdl⟩:=Qjt ht he hs fuel H enc base sp hd cs x h hw
 refine⟨_,⟨s,rfl, ?_⟩,hdl⟩
 rcases DataW.trod_slice ht h with⟨rfl,_⟩|⟨a,len,cap,elems,rest,n,hfu,rfl,rfl,_,_,_,hlen,_,_,_⟩
 ·have h1:DR _ w (.slice (s.map Qai)) _:=hdl.dr 0 _ _ rfl rfl
  generalize hq:s.map Qai=q at h1
  have hq2:q.length=s.length:=by rw[←hq];simp
  cases h1 with
  |slnil=>simp at hq2;omega
 ·have h1:DR _ w (.slice (s.map Qai)) _:=hdl.dr 0 _ _ rfl rfl
  have h2:elems.length≤reachBytes:=by
   have:=hw ((elems.length+rest.length)*P.bytesOf e) (by simp[DataW.weights,ht])
   rw[hb]at this;omega
  have h3:s.length=len:=by
   generalize hq:s.map Qai=q at h1
   have hq2:q.length=s.length:=by rw[←hq];simp
   cases h1 with
   |sle=>simp at hq2;omega
   |slice=>omega
  omega
end Go.Abs
namespace Go.Proofs.YtfoiaojdnmpgmaaGreatDoor
open Go Go.Abs Go.RowKit
theorem Qda(w:World):Opens Tryz.prog w 36 fun ds=>∃s:List UInt8,ds= [.slice (s.map Qai)]∧s.length≤reachBytes:=Qim Tryz.underlying36 Tryz.underlying5 (by kernel_rfl) (by kernel_rfl)
theorem QgU(w:World):Opens Tryz.prog w 68 fun ds=>∃(a:Bool) (n:Int) (d:List UInt8),ds= [.bool a,.int .i64 n,.slice (d.map Qai)]∧n≤9223372036854775807:=
 (Qik (P:=Tryz.prog) (w:=w) Tryz.underlying68 (As:= [_,_,_]) ⟨rfl,Qlc Tryz.underlying4,by kernel_rfl,Qmz Tryz.underlying2,by kernel_rfl,Qda w,trivial⟩ (by kernel_rfl)).mono fun ds h=>by
   obtain⟨d1,r1,rfl,⟨a,rfl⟩,d2,r2,rfl,⟨n,rfl,hn⟩,d3,r3,rfl,⟨s,rfl,_⟩,h4⟩:=h
   have:r3= []:=h4
   subst this
   exact⟨a,n,s,rfl,hn.2⟩
end Go.Proofs.YtfoiaojdnmpgmaaGreatDoor
