/- Part 2. -/
import Derived.Test.YtfoiaojdnmpgmaaGreatDoorPartA
import Derived.IntWalk
import Derived.Laws.Cover3
import Derived.Scope
set_option linter.all false
namespace Go.Abs
open Go.RowKit
variable [Tab]
section ops
variable {P:Program} {g:Gh} {H:Qab} {w:World} {cons:List Nat}
theorem QgV(hH:HeapOK g H w){cs:List AV}{us:Array Value}(hcl:CL g w cs us.toList){s len:Nat}{agg:Bool}{xs:List D}(hx:chunks s agg len cs=some xs)(hsz:us.size=len*s)(e:TypeId)(a:AV)
  (ha:a= .fslice xs∨a= .lit xs):
  OpOK g w cons (g.fresh w.heap.size .mine (len*s)) H (w.alloc (.cells us e)) a (.slice (some ⟨w.heap.size,0,none⟩) len len):=by
 have hlen:cs.length=us.size:=by have:=hcl.len;simpa using this
 obtain⟨b1,b2,b3,b4⟩:=Qed len cs us.toList xs hcl (by omega) hx
 have hrow:=Qf8 hH (vs:=us) (e:=e) (fr:=(0,0)) (xs:=xs) (sz:=s) (cap:=len) b2 b3 (by omega) (by rw[b1,hsz];exact Nat.le_refl _)
  (fun i j x c q1 q2=>by obtain⟨v,h1,h2⟩:=b4 i j x c q1 q2;exact⟨v,by simpa using h1,h2⟩) .mine (by simp)
 rw[b1]at hrow
 have hw:=Qdo hH (.cells us e) .mine (by simp) (len*s)
 refine⟨hw,QeC hH _ _ (by simp) _, ?_, ?_,fun i x u _ hf=>Qdt hH _ _ _ (by simp) hf⟩
 ·rcases ha with rfl|rfl
  ·exact .fsl _ _ hrow
  ·exact .lit _ _ _ _ hrow (by simp[Gh.fresh])
 ·rcases ha with rfl|rfl
  ·exact FOK.triv (fun ys _=>⟨_,_,rfl⟩)
  ·exact FOK.ne (by simp)
theorem Qio(hH:HeapOK g H w){cs:List AV}{us:Array Value}(hcl:CL g w cs us.toList)(e:TypeId)(l c sz:Nat)(hlc:l≤c)(hz:c*sz≤us.size):
  OpOK g w cons (g.newObj w.heap.size (Qb9 (.cells us e))) (H++ [.cells cs]) (w.alloc (.cells us e)) (.oslice H.length 0 l c sz) (.slice (some ⟨w.heap.size,0,none⟩) l c):=by
 refine Qfm hH cons _ _ ?_ (.inr (.inr ⟨l,c,c,sz,rfl,rfl,hlc,Nat.le_refl _,hz⟩))
 have hw:=Qcu hH (.cells us e)
 refine⟨us,e,(0,0),by rw[Qhr];exact QaF _ _,by have:=hcl.len;simp[Gh.newObj,Qb9]at this⊢;omega,.inl rfl,hcl.cell,fun j c v hc hv=> ?_⟩
 have:=hcl.vr j c v hc (by simpa using hv)
 exact⟨hw.vr this.1,FOK.triv this.2⟩
theorem op_mkSl(hH:HeapOK g H w){t e:TypeId}(hd:P.underlying t=some (.slice e)){s:Nat}(hs:QaX P e=some s){b:Nat}(hb:Qee P e=some b){z:AV}(hz:QdD P e=some z)(hzc:z.cells.all AV.isCell=true)(hs0:0<s)(hzl:z.cells.length=s)
  {l c:Int}(kl kc:IntKind)(h0:0≤l)(h1:l≤c)(h2:c*b≤281474976710656)(h3:c≤281474976710656):
  ∃w' g',(Instr.makeSlice t (.int kl l) (.int kc c)).run P w= .ok (.slice (some ⟨w.heap.size,0,none⟩) l.toNat c.toNat) w'∧
   OpOK g w cons g' (H++ [.cells (List.replicate c.toNat z.cells).flatten]) w' (.oslice H.length 0 l.toNat c.toNat s) (.slice (some ⟨w.heap.size,0,none⟩) l.toNat c.toNat):=by
 obtain⟨i,hi,rfl⟩:=Qan hs
 obtain⟨i',zv,hi',hz1,rfl⟩:=Qbu hz
 rw[hi]at hi';injection hi' with hi';subst hi'
 rw[List.all_eq_true]at hzc
 have hcl:=QbJ (Qbt g w zv).1 (Qbt g w zv).2 hzc
 have hzero:=QjZ hcl c.toNat (by rw[hzl];exact hs0)
 rw[hzl]at hzero
 have hbi:i.bytes=b:=by simpa[Qee,hi]using hb
 have hwl:IntKind.i64.wrap l=l:=Go.IntWalk.i64_in l (by omega)
 have hwc:IntKind.i64.wrap c=c:=Go.IntWalk.i64_in c (by omega)
 refine⟨_,_, ?_,Qio hH hzero e _ _ _ (by omega) (by simp[Builtin.zeroCells])⟩
 have hb2:¬((i.bytes:Int)*c>2^48):=by rw[hbi,Int.mul_comm];omega
 have hzs:zv.cells.size=i.size:=by rw[←hzl,hcl.len];simp
 have hcond:((decide (c<0)||decide ((i.bytes:Int)*c>2^48))||decide (l<0)||decide (l>c))=false:=by
  simp only[Bool.or_eq_false_iff,decide_eq_false_iff_not]
  exact⟨⟨⟨by omega,hb2⟩,by omega⟩,by omega⟩
 unfold Instr.makeSlice
 simp only[Sem.run_bind,run_underlying hd,Result.andThen_ok,asInt,asIntOf,Sem.run_pure,run_typeInfo w hi,hwl,hwc,hcond,Bool.false_eq_true,if_false,run_askRoom,Qaj hi]
 by_cases hn:c.toNat*i.size=0
 ·have e0:∀f:Nat→Value,Array.map f (Array.range 0)= #[]:=fun f=>by simp
  simp only[hn,if_true,Sem.run_pure,Result.andThen_ok,e0,newRow,Sem.run_bind,run_newObj,World.alloc_eq]
 ·simp only[hn,if_false,Sem.run_bind,QaG hi hz1,Sem.run_pure,Result.andThen_ok,newRow,run_newObj,World.alloc_eq]
theorem toD_unf(a:AV):AV.toD a.unf=AV.toD a:=by cases a<;>simp[AV.unf,AV.toD]
theorem Qj5:∀cs:List AV,AV.toDs (cs.map AV.unf)=AV.toDs cs
 | []=>rfl
 |c::cs=>by simp[AV.toDs,toD_unf,Qj5 cs]
theorem QeM{sz:Nat}{agg:Bool}:∀(n:Nat) (cs:List AV),chunks sz agg n (cs.map AV.unf)=chunks sz agg n cs
 |0,_=>rfl
 |n+1,cs=>by
  simp only[chunks]
  rw[←List.map_take,←List.map_drop,Qj5,QeM n]
theorem QfD(hH:HeapOK g H w){str agg:Bool}{y:AV}{u:Value}{ys:List D}{sz:Nat}(hy:VR g w y u)(h:srcOf str agg H y=some ys)(hsz:QaS sz ys=true)(hstr:str=true→sz=1)(hagg:agg=(sz !=1))(hs0:0<sz):
  (∀e∈ys,e.cells.length=sz)∧(Builtin.lenOf u).run P w= .ok ys.length w∧(∀e∈ys,∀c∈e.cells,c.isCell=true)∧∀n,n≤ys.length→∃cells:Array Value,(Builtin.firstCells sz n u).run P w= .ok cells w∧cells.size=n*sz∧
    ∀(i j:Nat) x c,i<n→ys[i]? =some x→x.cells[j]? =some c→∃v,cells[i*sz+j]? =some v∧DR g.bd w c v:=by
 have pure_:∀ {xs:List D},DR g.bd w (.slice xs) u→QaS sz xs=true→(∀e∈xs,e.cells.length=sz)∧(Builtin.lenOf u).run P w= .ok xs.length w∧(∀e∈xs,∀c∈e.cells,c.isCell=true)∧∀n,n≤xs.length→∃cells:Array Value,(Builtin.firstCells sz n u).run P w= .ok cells w∧cells.size=n*sz∧
   ∀(i j:Nat) x c,i<n→xs[i]? =some x→x.cells[j]? =some c→∃v,cells[i*sz+j]? =some v∧DR g.bd w c v:=by
  intro xs hd hsz
  cases hd with
  |slnil=>exact⟨by simp,by simp[Builtin.lenOf],by simp,fun n hn=>⟨#[],by simp[Builtin.firstCells],by simp at hn;simp[hn],fun i j x c _ h=>by simp at h⟩⟩
  |sle a cap=>exact⟨by simp,by simp[Builtin.lenOf],by simp,fun n hn=>⟨#[],by simp at hn;subst hn;simp[Builtin.firstCells,loadCells,loadCellsFrom],by simp at hn;simp[hn],fun i j x c _ h=>by simp at h⟩⟩
  |slice _ b off len cap sz' vs hlen hcap hu hf hc h=>
   refine⟨fun x hx=>by rw[hu x hx];exact Qbd hu hsz hx,by simp[Builtin.lenOf,hlen],hf,fun n hn=> ?_⟩
   by_cases hne:xs= []
   ·subst hne
    simp at hn
    subst hn
    exact⟨#[],by simp[Builtin.firstCells,loadCells,loadCellsFrom],by simp,fun i j x c _ h=>by simp at h⟩
   ·obtain⟨x0,hx0⟩:=List.exists_mem_of_ne_nil _ hne
    have hss:sz'=sz:=Qbd hu hsz hx0
    subst hss
    have hle:n*sz'≤xs.length*sz':=Nat.mul_le_mul_right _ hn
    have hl:=run_loadCells (P:=P) w ⟨b,off,none⟩ (n*sz') vs (fun j hj=>by rw[add_lit];exact(hc j (by omega)).2)
    refine⟨_,by simp only[Builtin.firstCells];exact hl,by simp,fun i j x c hi hx hc'=>⟨vs (i*sz'+j), ?_,h i j x c hx hc'⟩⟩
    have hj:=(List.getElem?_eq_some_iff.1 hc').1
    rw[hu x (List.mem_of_getElem? hx)]at hj
    have:i*sz'+j<n*sz':=by
     have:i*sz'+sz'≤n*sz':=by rw[←Nat.succ_mul];exact Nat.mul_le_mul_right _ hi
     omega
    simp[this]
 unfold srcOf at h
 split at h
 ·
  simp at h;subst h
  have hs1:=hstr rfl
  subst hs1
  obtain⟨s,rfl,rfl⟩:=QdF hy
  refine⟨fun e he=>by obtain⟨b,_,rfl⟩:=List.mem_map.1 he;rfl,by simp[Builtin.lenOf],fun e he c hc=> ?_,fun n hn=>⟨(s.extract 0 n).data.map fun b=> .int .u8 b.toNat,by simp[Builtin.firstCells], ?_,fun i j x c hi hx hc=> ?_⟩⟩
  ·obtain⟨b,_,rfl⟩:=List.mem_map.1 he
   simp[Qai,D.cells]at hc;subst hc;rfl
  ·simp at hn
   simp[ByteArray.data_extract];omega
  ·obtain⟨rfl,b,hb,rfl⟩:=Qgo _ i j x c hx hc
   refine⟨.int .u8 b.toNat, ?_,.int _ _⟩
   rw[Array.getElem?_toList]at hb
   have hlt:=(Array.getElem?_eq_some_iff.1 hb).1
   simp only[Nat.mul_one,Nat.add_zero,Array.getElem?_map,ByteArray.data_extract]
   rw[Array.getElem?_extract]
   simp at hn
   rw[if_pos (by omega)]
   simp[hb]
 ·simp at h;subst h;exact pure_ hy.d_inv hsz
 ·simp at h;subst h
  cases hy with
  |fsl _ _ hy=>exact pure_ hy hsz
 ·simp at h;subst h
  cases hy with
  |lit _ _ _ _ hy _=>exact pure_ hy hsz
 ·rename_i r off len cap sz'
  split at h
  ·rename_i cs hr
   split at h
   ·rename_i hle
    obtain⟨hrn,ho⟩:=hH.get hr
    obtain⟨vs,e,fr,h1,h2,h3⟩:=Qmx ho
    rw[←QeM,List.map_drop]at h
    have hsub:=h3.sub off cs.length
    rw[List.take_of_length_le (by simp),List.take_of_length_le (by simp;omega)]at hsub
    obtain⟨b1,b2,b3,b4⟩:=Qed len _ _ ys hsub (by simp;omega) h
    cases hy with
    |osl _ _ _ _ _ _ _ hcap hcap' hroom=>
     refine⟨fun x hx=>by rw[b2 x hx];exact Qbd b2 hsz hx,by simp[Builtin.lenOf,b1],b3,fun n hn=> ?_⟩
     by_cases hne:ys= []
     ·subst hne
      simp at hn
      subst hn
      exact⟨#[],by simp[Builtin.firstCells,loadCells,loadCellsFrom],by simp,fun i j x c _ h=>by simp at h⟩
     ·obtain⟨x0,hx0⟩:=List.exists_mem_of_ne_nil _ hne
      have hss:sz'=sz:=Qbd b2 hsz hx0
      subst hss
      have hle':n*sz'≤len*sz':=Nat.mul_le_mul_right _ (by omega)
      have hl:=run_loadCells (P:=P) w ⟨g.rho r,off,none⟩ (n*sz') (fun j=>vs.getD (off+j) undef) (fun j hj=>by
       have:off+j<vs.size:=by omega
       rw[add_lit,Qax h1];simp[Array.getD,this])
      refine⟨_,by simp only[Builtin.firstCells];exact hl,by simp,fun i j x c hi hx hc'=> ?_⟩
      obtain⟨v,hv,hdv⟩:=b4 i j x c hx hc'
      have hj:=(List.getElem?_eq_some_iff.1 hc').1
      rw[b2 x (List.mem_of_getElem? hx)]at hj
      have hlt:i*sz'+j<n*sz':=by
       have:i*sz'+sz'≤n*sz':=by rw[←Nat.succ_mul];exact Nat.mul_le_mul_right _ hi
       omega
      rw[List.getElem?_drop,List.getElem?_take,if_pos (by omega),Array.getElem?_toList]at hv
      refine⟨v, ?_,hdv⟩
      have hlt2:=(Array.getElem?_eq_some_iff.1 hv).1
      have hv2:=(Array.getElem?_eq_some_iff.1 hv).2
      simp[hlt,hlt2,hv2]
   ·simp at h
  ·simp at h
 ·simp at h
theorem QiI(need:Nat)(h:256<need):∀(k c:Nat),c≤3*need→Builtin.growBy need k c≤3*need
 |0,c,hc=>by simpa[Builtin.growBy]using hc
 |k+1,c,hc=>by
  simp only[Builtin.growBy]
  split
  ·exact hc
  ·exact QiI need h k _ (by omega)
theorem QgY{need cap:Nat}(h:cap<need):Builtin.nextslicecap need cap≤3*need:=by
 unfold Builtin.nextslicecap
 split
 ·omega
 ·split
  ·omega
  ·exact QiI need (by omega) 4 cap (by omega)
theorem two_rows{bd:Nat→Nat}{w':World}{xs ys:List D}{sz:Nat}{f:Nat→Value}
  (hx:∀(i j:Nat) x c,xs[i]? =some x→x.cells[j]? =some c→DR bd w' c (f (i*sz+j)))
  (hy:∀(i j:Nat) x c,ys[i]? =some x→x.cells[j]? =some c→DR bd w' c (f (xs.length*sz+(i*sz+j)))):
  ∀(i j:Nat) x c,(xs++ys)[i]? =some x→x.cells[j]? =some c→DR bd w' c (f (i*sz+j)):=by
 intro i j x c h1 h2
 by_cases hi:i<xs.length
 ·rw[List.getElem?_append_left hi]at h1;exact hx i j x c h1 h2
 ·rw[List.getElem?_append_right (by omega)]at h1
  have:=hy _ j x c h1 h2
  have e:xs.length*sz+((i-xs.length)*sz+j)=i*sz+j:=by
   rw[←Nat.add_assoc,←Nat.add_mul]
   congr 2;omega
  rwa [e]at this
def putAt(base:Option Addr)(k:Nat)(l:List Value):Sem Unit:=
 match base with
 |some a=>storeCells (a.add k) l
 |none=>pure ()
theorem DR.slice_inv{bd:Nat→Nat}{w:World}{xs:List D}{b off len cap:Nat}(h:DR bd w (.slice xs) (.slice (some ⟨b,off,none⟩) len cap)):
  len=xs.length∧len≤cap∧∃(sz:Nat) (vs:Nat→Value),(∀x∈xs,x.cells.length=sz)∧(∀x∈xs,∀c∈x.cells,c.isCell=true)∧
   (∀k,k<xs.length*sz→off+k<bd b∧QaL w b (off+k)=some (vs k))∧∀(i j:Nat) x c,xs[i]? =some x→x.cells[j]? =some c→DR bd w c (vs (i*sz+j)):=by
 generalize hv:Value.slice (some ⟨b,off,none⟩) len cap=v at h
 cases h with
 |slnil=>cases hv
 |sle a c2=>
  injection hv with w1 w2 w3
  subst w2 w3
  exact⟨rfl,Nat.zero_le _,0,fun _=>undef,by simp,by simp,by simp,by simp⟩
 |slice _ b2 o2 l2 c2 sz vs d1 d2 d3 d4 d5 d6=>
  injection hv with w1 w2 w3
  injection w1 with w1
  injection w1 with w1a w1b
  subst w1a w1b w2 w3
  exact⟨d1,d2,sz,vs,d3,d4,d5,d6⟩
theorem QmK(hH:HeapOK g H w){sT xT e ty:TypeId}(hd:P.underlying sT=some (.slice e)){s:Nat}(hs:QaX P e=some s){b:Nat}(hb:Qee P e=some b){z:AV}(hz:QdD P e=some z)(hzc:z.cells.all AV.isCell=true)(hzl:z.cells.length=s)(hs0:0<s)
  {str:Bool}(hxT:∃dx,P.underlying xT=some dx∧(dx= .string∨∃e2,dx= .slice e2))(hstr:str=true→s=1){xs ys:List D}{v u:Value}{y:AV}
  (hv:VR g w (.fslice xs) v)(hf:Triv (.fslice xs) v∨∃t,t∈cons∧FOK g w (.slot t) (.fslice xs) v)(hy:VR g w y u)(hsrc:srcOf str (s !=1) H y=some ys)
  (hbound:(xs.length+ys.length)*(b+s)≤70368744177664)(hxs:QaS s xs=true)(hys:QaS s ys=true):
  ∃r w' g',(Builtin.append_ #[sT,xT] ty #[v,u]).run P w= .ok r w'∧OpOK g w cons g' H w' (.fslice (xs++ys)) r:=by
 obtain⟨i,hi,rfl⟩:=Qan hs
 obtain⟨i',zv,hi',hz1,rfl⟩:=Qbu hz
 rw[hi]at hi';injection hi' with hi';subst hi'
 have hbi:i.bytes=b:=by simpa[Qee,hi]using hb
 subst hbi
 obtain⟨dx,hdx,hdi⟩:=hxT
 obtain⟨hyu,hlen,hyf,hcells⟩:=QfD (P:=P) hH hy hsrc hys hstr rfl hs0
 obtain⟨cells,hc1,hc2,hc3⟩:=hcells ys.length (Nat.le_refl _)
 have hdv:DR g.bd w (.slice xs) v:=by cases hv;assumption
 have hbs:(xs.length+ys.length)≤70368744177664:=by
  have h1:1≤i.bytes+i.size:=by omega
  have:=Nat.mul_le_mul_left (xs.length+ys.length) h1
  omega
 have hbb:(xs.length+ys.length)*i.bytes≤70368744177664:=Nat.le_trans (Nat.mul_le_mul_left _ (by omega)) hbound
 obtain⟨base,cap,rfl⟩:∃base cap,v= .slice base xs.length cap:=by
  cases hdv with
  |slnil=>exact⟨none,0,rfl⟩
  |sle a cap=>exact⟨_,_,rfl⟩
  |slice _ b off len cap sz vs hlen=>subst hlen;exact⟨_,_,rfl⟩
 by_cases hroom:xs.length+ys.length≤cap
 ·have hrun:(Builtin.append_ #[sT,xT] ty #[.slice base xs.length cap,u]).run P w=
    ((putAt base (xs.length*i.size) cells.toList).run P w).andThen fun _ w'=> .ok (.slice base (xs.length+ys.length) cap) w':=by
   unfold Builtin.append_
   simp only[List.getElem?_toArray,List.getElem?_cons_zero,List.getElem?_cons_succ,Sem.run_bind,run_underlying hd,Result.andThen_ok,Qaj hi]
   rcases hdi with rfl|⟨e2,rfl⟩<;>cases base<;>simp[run_underlying hdx,hlen,hc1,hroom,Result.andThen,putAt]
  have triv_case:Triv (.fslice xs) (.slice base xs.length cap)→∃r w' g',(Builtin.append_ #[sT,xT] ty #[.slice base xs.length cap,u]).run P w= .ok r w'∧OpOK g w cons g' H w' (.fslice (xs++ys)) r:=by
   intro ht
   obtain⟨p,n,hpn⟩:=ht xs rfl
   injection hpn with _ h2 h3
   have hy0:ys.length=0:=by omega
   have hy0':ys= []:=List.length_eq_zero_iff.1 hy0
   subst hy0'
   have hce:cells.toList= []:=by
    have:cells.size=0:=by rw[hc2];simp
    simpa using this
   refine⟨.slice base xs.length cap,w,g, ?_, ?_⟩
   ·rw[hrun,hce]
    cases base<;>simp[storeCells,putAt]
   ·rw[List.append_nil];exact .same hH hv ht
  rcases hf with ht|⟨t,htc,hf⟩
  ·exact triv_case ht
  ·rcases hf xs rfl with ht|⟨bl,off,cap',sz,q1,q2,q3,q4,q5,cs,el,fr,q6,q7,q8⟩
   ·exact triv_case fun ys e=>ht
   ·injection q1 with q1a _ q1c
    subst q1a q1c
    obtain⟨x0,hx0⟩:=List.exists_mem_of_ne_nil _ q2
    have hss:sz=i.size:=Qbd q3 hxs hx0
    subst hss
    have hlt:bl<w.heap.size:=hH.own_lt (by rw[q4];simp)
    have hnobj:∀r,r<g.n→Qco H r→g.rho r≠bl:=by
     intro r hr hal e0
     have:=(hH.own r hr hal).1
     rw[e0,q4]at this;cases this
    have hmul:xs.length*i.size+ys.length*i.size≤cap*i.size:=by
     rw[←Nat.add_mul];exact Nat.mul_le_mul_right _ hroom
    obtain⟨s1,s2,s3,s4⟩:=QbX bl cells.toList (off+xs.length*i.size) w
    have hst:=run_storeCells_cells (P:=P) bl (off+xs.length*i.size) cells.toList 0 w
     (fun j hj=>by
       simp[hc2]at hj
       rw[Qax q6];rw[Array.getElem?_eq_getElem (by omega)];rfl)
     (fun j hj=>by
       simp[hc2]at hj
       exact Qbe q6 q8 (by omega))
     (fun v hv=>by
       obtain⟨k,hk⟩:=List.mem_iff_getElem?.1 hv
       have hkl:=(List.getElem?_eq_some_iff.1 hk).1
       simp[hc2]at hkl
       have hdiv:k/i.size<ys.length:=Nat.div_lt_of_lt_mul (by rw[Nat.mul_comm];exact hkl)
       have hmod:k % i.size<i.size:=Nat.mod_lt _ hs0
       have hyk:ys[k/i.size]? =some ys[k/i.size]:=List.getElem?_eq_getElem hdiv
       have hjl:k % i.size<ys[k/i.size].cells.length:=by rw[hyu _ (List.getElem_mem _)];exact hmod
       have hck:ys[k/i.size].cells[k % i.size]? =some ys[k/i.size].cells[k % i.size]:=List.getElem?_eq_getElem hjl
       obtain⟨v',h1,h2⟩:=hc3 _ _ _ _ hdiv hyk hck
       have e0:k/i.size*i.size+k % i.size=k:=by rw[Nat.mul_comm];exact Nat.div_add_mod k i.size
       rw[e0]at h1
       rw[Array.getElem?_toList,h1]at hk
       injection hk with hk;subst hk
       exact(h2.notAgg (hyf _ (List.getElem_mem _) _ (List.getElem_mem _))).1)
    simp only[Nat.add_zero]at hst
    obtain⟨cs',p1,p2⟩:=Qbq bl cells.toList (off+xs.length*i.size) w cs el fr q6 (by simp[hc2];omega)
    have hcs':cs'.size=cs.size:=by
     have:=congrArg List.length p2
     simp[hc2]at this
     omega
    generalize hw':w.setCells bl (off+xs.length*i.size) cells.toList=w' at*
    let g':Gh:= { g with own:=fun x=>if x=bl then .res else g.own x,bd:=fun x=>if x=bl then off+(xs.length+ys.length)*i.size else g.bd x }
    have hother:∀x,x≠bl→w'.heap[x]? =w.heap[x]? :=fun x hx=>by rw[←hw'];exact Qbp _ _ _ _ _ hx
    have hcell:∀k,k<off+xs.length*i.size→QaL w' bl k=QaL w bl k:=by
     intro k hk
     rw[←hw']
     exact World.cell?_setCells_out bl cells.toList _ w ⟨bl,k,none⟩ (fun _ _=> .inl hk)
    have hnew:∀k,k<ys.length*i.size→QaL w' bl (off+xs.length*i.size+k)=cells[k]? :=by
     intro k hk
     have hk':k<cells.toList.length:=by simp[hc2];exact hk
     have:=World.cell?_setCells_in bl cells.toList (off+xs.length*i.size) w (fun j hj=>by
      simp[hc2]at hj
      rw[Qax q6];rw[Array.getElem?_eq_getElem (by omega)];rfl) k hk'
     rw[hw']at this
     unfold QaL
     rw[this]
     simp
    have hwf:WF g w g' w':= {
     os:=s1,tape:=s2,output:=s3,size:=Nat.le_of_eq s4.symm
     idle:=fun x _ ho=>by
      have hx:x≠bl:=by intro e0;rw[e0,q4]at ho;rcases ho with h|h<;>cases h
      exact⟨hother x hx,by simp[g',hx],by simp[g',hx]⟩
     stays:=fun x k hk=>by
      by_cases hx:x=bl
      ·subst hx
       rw[q5]at hk
       refine⟨?_,hcell k hk⟩
       simp only[g',if_true]
       rw[Nat.add_mul];omega
      ·exact⟨by simpa[g',hx]using hk,Qbh (hother x hx) k⟩
     n:=Nat.le_refl _,rho:=fun _ _=>rfl
     out:=fun x hx=>by
      by_cases e0:x=bl
      ·simp[g',e0]at hx
      ·simpa[g',e0]using hx
     mine:=fun x hx=>by
      have e0:x≠bl:=by intro e0;rw[e0,q4]at hx;cases hx
      simpa[g',e0]using hx }
    have hkeep:∀ {loc:Own} {a:AV} {v:Value},loc≠ .slot t→loc≠ .res→FOK g w loc a v→FOK g' w' loc a v:=by
     intro loc a v hl _ hfk
     refine hfk.keep fun x hx=> ?_
     have e0:x≠bl:=by intro e0;rw[e0,q4]at hx;exact hl hx.symm
     exact⟨by simpa[g',e0]using hx,by simp[g',e0],fun c e f hh hz=>⟨c,f,by rw[hother x e0];exact hh,rfl,hz⟩⟩
    have hheap:HeapOK g' H w':=by
     refine⟨hH.n,fun r hr hal=> ?_,fun r o ho=> ?_,fun x hx=> ?_,fun n cs hn=>hwf.vr (hH.glob n cs hn)⟩
     ·have:=hnobj r hr hal
      simpa[g',this]using hH.own r hr hal
     ·have hr:r<g.n:=by rw[hH.n];exact(List.getElem?_eq_some_iff.1 ho).1
      exact(hH.obj r o ho).keep hwf hr (fun hd=>hother _ (hnobj r hr (Qck ho hd))) (fun j a v=>hkeep (by simp) (by simp))
     ·rw[s4]at hx
      have e0:x≠bl:=by omega
      simpa[g',e0]using hH.new x hx
    have hu2:∀x∈xs++ys,x.cells.length=i.size:=fun x hx=>(List.mem_append.1 hx).elim (q3 x) (hyu x)
    have hdr:DR g'.bd w' (.slice (xs++ys)) (.slice (some ⟨bl,off,none⟩) (xs.length+ys.length) cap):=by
     obtain⟨_,_,sz2,vs,d3,d4,d5,d6⟩:=hdv.slice_inv
     ·
      have hsz2:sz2=i.size:=Qbd d3 hxs hx0
      subst hsz2
      refine .slice (xs++ys) bl off _ cap i.size (fun k=>if k<xs.length*i.size then vs k else cells.getD (k-xs.length*i.size) undef) (by simp) hroom hu2
       (fun x hx=>(List.mem_append.1 hx).elim (d4 x) (hyf x)) (fun k hk=> ?_) (two_rows (xs:=xs) (ys:=ys) (sz:=i.size) (f:=fun k=>if k<xs.length*i.size then vs k else cells.getD (k-xs.length*i.size) undef) (fun k j x c h1 h2=> ?_) (fun k j x c h1 h2=> ?_))
      ·rw[List.length_append,Nat.add_mul]at hk
       refine⟨by simp only[g',if_true];rw[Nat.add_mul];omega, ?_⟩
       by_cases hk1:k<xs.length*i.size
       ·rw[if_pos hk1,hcell _ (by omega)]
        exact(d5 k hk1).2
       ·rw[if_neg hk1]
        have e0:off+k=off+xs.length*i.size+(k-xs.length*i.size):=by omega
        have hlt2:k-xs.length*i.size<cells.size:=by rw[hc2];omega
        rw[e0,hnew _ (by omega)]
        simp[Array.getD,hlt2]
      ·have hkl:=(List.getElem?_eq_some_iff.1 h1).1
       have hj:=(List.getElem?_eq_some_iff.1 h2).1
       rw[d3 x (List.mem_of_getElem? h1)]at hj
       have:k*i.size+j<xs.length*i.size:=by
        have:k*i.size+i.size≤xs.length*i.size:=by rw[←Nat.succ_mul];exact Nat.mul_le_mul_right _ hkl
        omega
       show DR _ _ _ (if k*i.size+j<xs.length*i.size then vs (k*i.size+j)else cells.getD (k*i.size+j-xs.length*i.size) undef)
       rw[if_pos this]
       exact hwf.dr (d6 k j x c h1 h2)
      ·have hkl:=(List.getElem?_eq_some_iff.1 h1).1
       obtain⟨v,hv1,hv2⟩:=hc3 k j x c hkl h1 h2
       show DR _ _ _ (if xs.length*i.size+(k*i.size+j)<xs.length*i.size then vs (xs.length*i.size+(k*i.size+j))else cells.getD (xs.length*i.size+(k*i.size+j)-xs.length*i.size) undef)
       rw[if_neg (by omega),Nat.add_sub_cancel_left]
       have h3:=(Array.getElem?_eq_some_iff.1 hv1).1
       have h4:=(Array.getElem?_eq_some_iff.1 hv1).2
       have:cells.getD (k*i.size+j) undef=v:=by simp[Array.getD,h3,h4]
       rw[this]
       exact hwf.dr hv2
    refine⟨.slice (some ⟨bl,off,none⟩) (xs.length+ys.length) cap,w',g', ?_,hwf,hheap,.fsl _ _ hdr, ?_,fun k x u2 hk hfk=>hkeep (by simp;intro e0;subst e0;exact hk htc) (by simp) hfk⟩
    ·rw[hrun]
     simp only[putAt,add_lit,hst,Result.andThen_ok]
    ·intro zs ez
     injection ez with ez;subst ez
     refine .inr ⟨bl,off,cap,i.size,by simp,by simp[q2],hu2,by simp[g'],by simp[g'],cs',el,fr,p1,by omega, ?_⟩
     rw[hcs'];exact q8
 ·have hnf:(Question.appendCap (xs.length+ys.length) cap e).forced=false:=rfl
  have hneed:cap<xs.length+ys.length:=by omega
  have hnc:¬(Builtin.nextslicecap (xs.length+ys.length) cap*i.bytes>2^48):=by
   have h1:=Nat.mul_le_mul_right i.bytes (QgY hneed)
   have h2:3*(xs.length+ys.length)*i.bytes=3*((xs.length+ys.length)*i.bytes):=Nat.mul_assoc _ _ _
   omega
  have hmax:¬(((xs.length+ys.length:Nat):Int)>IntKind.i64.max):=by rw[IntKind.max_i64];omega
  rw[List.all_eq_true]at hzc
  have hzcl:=QbJ (Qbt g w zv).1 (Qbt g w zv).2 hzc
  have hzs:zv.cells.size=i.size:=by rw[←hzl,hzcl.len];simp
  generalize hcap:(Question.appendCap (xs.length+ys.length) cap e).cut (w.tape w.drawn (Question.appendCap (xs.length+ys.length) cap e))=nc
  have hnc2:xs.length+ys.length≤nc:=by rw[←hcap];exact Nat.le_add_right _ _
  have hyd:VR g w.drew y u:=(QcN g w).vr hy
  have hxd:VR g w.drew (.fslice xs) (.slice base xs.length cap):=(QcN g w).vr hv
  have hHd:=Qdg hH
  obtain⟨_,_,_,hcells'⟩:=QfD (P:=P) hHd hyd hsrc hys hstr rfl hs0
  obtain⟨new,n1,n2,n3⟩:=hcells' ys.length (Nat.le_refl _)
  obtain⟨hxu,_,hxf,hcellsx⟩:=QfD (P:=P) (str:=false) (agg:=(i.size !=1)) hHd hxd (ys:=xs) rfl hxs (by simp) rfl hs0
  obtain⟨old,o1,o2,o3⟩:=hcellsx xs.length (Nat.le_refl _)
  let rest:Array Value:=Builtin.zeroCells zv.cells (nc-(xs.length+ys.length))
  have hrest:rest.size=(nc-(xs.length+ys.length))*i.size:=by simp[rest,Builtin.zeroCells,hzs]
  have hrun:(Builtin.append_ #[sT,xT] ty #[.slice base xs.length cap,u]).run P w=
    .ok (.slice (some ⟨w.heap.size,0,none⟩) (xs.length+ys.length) nc) (w.drew.alloc (.cells (old++new++rest) e)):=by
   unfold Builtin.append_
   simp only[List.getElem?_toArray,List.getElem?_cons_zero,List.getElem?_cons_succ,Sem.run_bind,run_underlying hd,Result.andThen_ok,Qaj hi]
   rcases hdi with rfl|⟨e2,rfl⟩
   ·simp only[run_underlying hdx,Sem.run_pure,Result.andThen_ok,Bool.false_eq_true,if_false,hlen,hroom,run_typeInfo w hi,Sem.run_bind,hmax,false_and,hnc,run_choose,hnf,hcap,World.drew_eq,run_askRoom,Bool.not_false,if_true]
    simp only[run_typeInfo w.drew hi,Result.andThen_ok,o1,n1,QaG hi hz1,newRow,Sem.run_bind,run_newObj,Sem.run_pure,World.alloc_eq,World.size_drew]
    rfl
   ·simp only[run_underlying hdx,Sem.run_pure,Result.andThen_ok,Bool.false_eq_true,if_false,hlen,hroom,run_typeInfo w hi,Sem.run_bind,hmax,false_and,hnc,run_choose,hnf,hcap,World.drew_eq,run_askRoom,Bool.not_false,if_true]
    simp only[run_typeInfo w.drew hi,Result.andThen_ok,o1,n1,QaG hi hz1,newRow,Sem.run_bind,run_newObj,Sem.run_pure,World.alloc_eq,World.size_drew]
    rfl
  have hu2:∀x∈xs++ys,x.cells.length=i.size:=fun x hx=>(List.mem_append.1 hx).elim (hxu x) (hyu x)
  have hsize:(old++new++rest).size=(nc)*i.size:=by
   simp only[Array.size_append,o2,n2,hrest]
   rw[←Nat.add_mul,←Nat.add_mul]
   congr 1;omega
  have hrow:=Qf8 hHd (vs:=old++new++rest) (e:=e) (fr:=(0,0)) (xs:=xs++ys) (sz:=i.size) (cap:=nc) hu2 (fun x hx=>(List.mem_append.1 hx).elim (hxf x) (hyf x)) (by simpa using hnc2)
   (by rw[hsize];simp only[List.length_append];exact Nat.mul_le_mul_right _ hnc2) (fun k j x c h1 h2=>by
     by_cases hk:k<xs.length
     ·rw[List.getElem?_append_left hk]at h1
      obtain⟨v,v1,v2⟩:=o3 k j x c hk h1 h2
      refine⟨v, ?_,v2⟩
      have hlt:=(Array.getElem?_eq_some_iff.1 v1).1
      rw[Array.getElem?_append_left (by simp;omega),Array.getElem?_append_left hlt]
      exact v1
     ·rw[List.getElem?_append_right (by omega)]at h1
      have hk2:=(List.getElem?_eq_some_iff.1 h1).1
      obtain⟨v,v1,v2⟩:=n3 (k-xs.length) j x c hk2 h1 h2
      refine⟨v, ?_,v2⟩
      have hlt:=(Array.getElem?_eq_some_iff.1 v1).1
      have e0:k*i.size+j=old.size+((k-xs.length)*i.size+j):=by
       rw[o2,←Nat.add_assoc,←Nat.add_mul]
       congr 2;omega
      rw[e0,Array.getElem?_append_left (by simp;omega),Array.getElem?_append_right (by omega),Nat.add_sub_cancel_left]
      exact v1) .res (by simp)
  have hwf:=Qdo hHd (.cells (old++new++rest) e) .res (by simp) ((xs++ys).length*i.size)
  refine⟨_,_,_,hrun,(QcN g w).trans hwf,QeC hHd _ _ (by simp) _,.fsl _ _ (by simpa using hrow), ?_,fun k x u2 _ hfk=>Qdt hHd _ _ _ (by simp) (Qfn hfk)⟩
  intro zs ez
  injection ez with ez;subst ez
  refine .inr ⟨w.heap.size,0,nc,i.size,by simp, ?_,hu2,by simp[Gh.fresh],by simp[Gh.fresh],old++new++rest,e,(0,0), ?_,by rw[hsize];omega,.inl rfl⟩
  ·intro e0
   have:=congrArg List.length e0
   simp at this
   obtain⟨h1,h2⟩:=this
   simp[h1,h2]at hroom
  ·have:=QaF w.drew (.cells (old++new++rest) e)
   simpa using this
end ops
end Go.Abs
namespace Go.Abs
open Go.RowKit
variable [Tab]
section ops
variable {P:Program} {g:Gh} {H:Qab} {w:World} {cons:List Nat}
theorem op_copy(hH:HeapOK g H w){dT sT e ty:TypeId}(hd:P.underlying dT=some (.slice e)){s:Nat}(hs:QaX P e=some s)(hs0:0<s)
  {str:Bool}(hstr:str=true→s=1){r off len cap:Nat}{v u:Value}{y:AV}{ys:List D}{cs:List AV}
  (hv:VR g w (.oslice r off len cap s) v)(hy:VR g w y u)(hsrc:srcOf str (s !=1) H y=some ys)(hr:H[r]? =some (.cells cs))(hle:off+(min ys.length len)*s≤cs.length)(hys:QaS s ys=true):
  ∃w' g',(Builtin.copy_ #[dT,sT] ty #[v,u]).run P w= .ok (.int .i64 (min ys.length len:Nat)) w'∧
   OpOK g w cons g' (H.set r (.cells (splice cs off (((ys.take (min ys.length len)).flatMap D.cells).map .d)))) w' (intD ((min ys.length len:Nat):Int)) (.int .i64 (min ys.length len:Nat)):=by
 obtain⟨i,hi,rfl⟩:=Qan hs
 obtain⟨hyu,hlen,hyf,hcells⟩:=QfD (P:=P) hH hy hsrc hys hstr rfl hs0
 have hn:min ys.length len≤ys.length:=Nat.min_le_left _ _
 obtain⟨cells,hc1,hc2,hc3⟩:=hcells (min ys.length len) hn
 cases hv with
 |osl _ _ _ _ _ _ hrn hcap hcap' hroom=>
 have hal:=Qck hr (by simp)
 generalize hm:min ys.length len=m at*
 have hflat:∀(ys:List D) (k:Nat),(∀e∈ys,e.cells.length=i.size)→(ys.flatMap D.cells).length=ys.length*i.size∧∀c,(ys.flatMap D.cells)[k]? =some c→
   ∃q j x,ys[q]? =some x∧x.cells[j]? =some c∧k=q*i.size+j:=by
  intro ys
  induction ys with
  |nil=>intro k _;simp
  |cons y0 ys ih=>
   intro k hu
   have h0:y0.cells.length=i.size:=hu y0 (by simp)
   obtain⟨i1,_⟩:=ih 0 (fun e he=>hu e (by simp[he]))
   refine⟨by rw[List.flatMap_cons,List.length_append,i1,h0,List.length_cons,Nat.succ_mul];omega,fun c hc=> ?_⟩
   rw[List.flatMap_cons]at hc
   by_cases hk:k<y0.cells.length
   ·rw[List.getElem?_append_left hk]at hc
    exact⟨0,k,y0,rfl,hc,by omega⟩
   ·rw[List.getElem?_append_right (by omega)]at hc
    obtain⟨_,i2⟩:=ih (k-y0.cells.length) (fun e he=>hu e (by simp[he]))
    obtain⟨q,j,x,h1,h2,h3⟩:=i2 c hc
    exact⟨q+1,j,x,by simpa using h1,h2,by rw[Nat.succ_mul];omega⟩
 have htu:∀e∈ys.take m,e.cells.length=i.size:=fun e he=>hyu e (List.mem_of_mem_take he)
 have hfl:((ys.take m).flatMap D.cells).length=m*i.size:=by
  rw[(hflat (ys.take m) 0 htu).1];congr 1;simp;omega
 have hlc:cells.toList.length=m*i.size:=by simpa using hc2
 obtain⟨ht,hor,hrun⟩:=QcR (P:=P) hH (us:=cells.toList) (ds:=((ys.take m).flatMap D.cells).map .d) (off:=off) hr (by rw[hlc];exact hle) (by rw[List.length_map,hfl,hlc])
  (fun c hc=>by
    obtain⟨d,hd',rfl⟩:=List.mem_map.1 hc
    obtain⟨x,hx,hdx⟩:=List.mem_flatMap.1 hd'
    exact hyf x (List.mem_of_mem_take hx) d hdx)
  (fun k c v hc hv=>by
    simp only[List.getElem?_map,Option.map_eq_some_iff]at hc
    obtain⟨d,hd',rfl⟩:=hc
    obtain⟨q,j,x,h1,h2,h3⟩:=(hflat (ys.take m) k htu).2 d hd'
    have hq:q<m:=by have:=(List.getElem?_eq_some_iff.1 h1).1;simp at this;omega
    rw[List.getElem?_take,if_pos hq]at h1
    obtain⟨v',hv1,hv2⟩:=hc3 q j x d hq h1 h2
    rw[←h3]at hv1
    rw[Array.getElem?_toList,hv1]at hv
    injection hv with hv;subst hv
    exact⟨.d _ _ hv2,FOK.triv (Triv.d _ _)⟩)
 refine⟨_,g, ?_,Qbb hH hrn hal ht,Qcf hH hrn hal ht hor,.d _ _ (.int _ _),FOK.ne (by simp[intD]),fun i x u _ hf=>Qcb hH hrn hal ht (by simp) hf⟩
 have hm':Nat.min ys.length len=m:=hm
 simp[Builtin.copy_,run_underlying hd,hlen,Qaj hi,hm',hc1,hrun,goInt]
theorem int_av{a:AV}{v:Value}{k:IntKind}{n:Int}(h:VR g w a v)(e:a= .d (.int k n)):v= .int k n:=by
 subst e
 have h:=h.d_inv
 cases h;rfl
theorem Qm9(f:Int→Int→Int)(op:Value→Value→Sem Value)(hop:∀k x j y,(op (.int k x) (.int j y)).run P w= .ok (.int k (f x y)) w):
  ∀(as:List AV) (vs:List Value) (k:IntKind) (a:Int),as.length=vs.length→(∀(i:Nat) x v,as[i]? =some x→vs[i]? =some v→VR g w x v)→∀p,
   as.foldl (fun acc v=>match acc,v with|some (k',x),.d (.int _ y)=>some (k',f x y)|_,_=>none) (some (k,a))=some p→(vs.foldlM op (.int k a)).run P w= .ok (.int p.1 p.2) w
 | [],[],k,a,_,_,p,h=>by simp at h;subst h;simp
 | [],v::vs,_,_,h,_,_,_=>by simp at h
 |x::as,[],_,_,h,_,_,_=>by simp at h
 |x::as,v::vs,k,a,hl,hr,p,h=>by
  have hx:=hr 0 x v rfl rfl
  have none_fold:∀l:List AV,l.foldl (fun(acc:Option (IntKind×Int)) v=>match acc,v with|some (k',x),.d (.int _ y)=>some (k',f x y)|_,_=>none) none=none:=by
   intro l;induction l with
   |nil=>rfl
   |cons y l ih=>simpa using ih
  have bad:∀x,(∀j y,x≠AV.d (.int j y))→(match(some (k,a):Option (IntKind×Int)),x with|some (k',x),.d (.int _ y)=>some (k',f x y)|_,_=>none)=none:=by
   intro x hx
   cases x with
   |d z=>cases z<;>first|rfl|exact absurd rfl (hx _ _)
   |_=>rfl
  by_cases he:∃j y,x= .d (.int j y)
  ·obtain⟨j,y,rfl⟩:=he
   rw[int_av hx rfl]
   simp only[List.foldl_cons]at h
   have ih:=Qm9 f op hop as vs k (f a y) (by simpa using hl) (fun i x v h1 h2=>hr (i+1) x v (by simpa using h1) (by simpa using h2)) p h
   simp only[List.foldlM_cons,Sem.run_bind,hop,Result.andThen_ok,ih]
  ·simp only[List.foldl_cons]at h
   rw[bad x (fun j y e=>he ⟨j,y,e⟩),none_fold]at h
   simp at h
theorem QmI{f:Int→Int→Int}{op:Value→Value→Sem Value}(hop:∀k x j y,(op (.int k x) (.int j y)).run P w= .ok (.int k (f x y)) w){as:List AV}{vs:List Value}
  (hl:as.length=vs.length)(hr:∀(i:Nat) x v,as[i]? =some x→vs[i]? =some v→VR g w x v){d:D}(h:QhH f as=some d):
  ∃v rest,vs=v::rest∧∃u,(rest.foldlM op v).run P w= .ok u w∧VR g w (.d d) u:=by
 unfold QhH at h
 split at h
 ·rename_i k a rest
  simp only[Option.map_eq_some_iff]at h
  obtain⟨p,hp,rfl⟩:=h
  cases vs with
  |nil=>simp at hl
  |cons v vs=>
   have hv:=int_av (hr 0 _ _ rfl rfl) rfl
   subst hv
   exact⟨_,_,rfl,_,Qm9 f op hop rest vs k a (by simpa using hl) (fun i x v h1 h2=>hr (i+1) x v (by simpa using h1) (by simpa using h2)) p hp,.d _ _ (.int _ _)⟩
 ·simp at h
theorem Qg5{sz:Nat}:∀(ys:List D) (k:Nat),(∀e∈ys,e.cells.length=sz)→(ys.flatMap D.cells).length=ys.length*sz∧∀c,(ys.flatMap D.cells)[k]? =some c→
  ∃q j x,ys[q]? =some x∧x.cells[j]? =some c∧k=q*sz+j:=by
 intro ys
 induction ys with
 |nil=>intro k _;simp
 |cons y0 ys ih=>
  intro k hu
  have h0:y0.cells.length=sz:=hu y0 (by simp)
  obtain⟨i1,_⟩:=ih 0 (fun e he=>hu e (by simp[he]))
  refine⟨by rw[List.flatMap_cons,List.length_append,i1,h0,List.length_cons,Nat.succ_mul];omega,fun c hc=> ?_⟩
  rw[List.flatMap_cons]at hc
  by_cases hk:k<y0.cells.length
  ·rw[List.getElem?_append_left hk]at hc
   exact⟨0,k,y0,rfl,hc,by omega⟩
  ·rw[List.getElem?_append_right (by omega)]at hc
   obtain⟨_,i2⟩:=ih (k-y0.cells.length) (fun e he=>hu e (by simp[he]))
   obtain⟨q,j,x,h1,h2,h3⟩:=i2 c hc
   exact⟨q+1,j,x,by simpa using h1,h2,by rw[Nat.succ_mul];omega⟩
theorem Qh3(hH:HeapOK g H w){str:Bool}{y:AV}{u:Value}{k sz:Nat}{ys:List AV}(hy:VR g w y u)(h:srcC str sz H y=some (k,ys))(hstr:str=true→sz=1)(hs0:0<sz):
  (Builtin.lenOf u).run P w= .ok k w∧ys.length=k*sz∧∃cells:Array Value,(Builtin.firstCells sz k u).run P w= .ok cells w∧CL g w ys cells.toList:=by
 have other:(match srcOf str (sz !=1) H y with|some ys=>if QaS sz ys=true then some (ys.length,(ys.flatMap D.cells).map AV.d)else none|none=>none)=some (k,ys)→
   (Builtin.lenOf u).run P w= .ok k w∧ys.length=k*sz∧∃cells:Array Value,(Builtin.firstCells sz k u).run P w= .ok cells w∧CL g w ys cells.toList:=by
  intro h
  split at h
  ·rename_i xs hsrc
   split at h
   ·rename_i hhd
    injection h with h;injection h with h1 h2
    subst h1 h2
    obtain⟨a1,a2,a3,a4⟩:=QfD (P:=P) hH hy hsrc hhd hstr rfl hs0
    obtain⟨cells,b1,b2,b3⟩:=a4 _ (Nat.le_refl _)
    have hlen:=(Qg5 xs 0 a1).1
    refine⟨a2,by rw[List.length_map,hlen],cells,b1,by simp[hlen,b2],fun c hc=> ?_,fun i c v hc hv=> ?_⟩
    ·obtain⟨d,hd,rfl⟩:=List.mem_map.1 hc
     obtain⟨x,hx,hdx⟩:=List.mem_flatMap.1 hd
     exact a3 x hx d hdx
    ·simp only[List.getElem?_map,Option.map_eq_some_iff]at hc
     obtain⟨d,hd,rfl⟩:=hc
     obtain⟨q,j,x,h1,h2,h3⟩:=(Qg5 xs i a1).2 d hd
     obtain⟨v',hv1,hv2⟩:=b3 q j x d (List.getElem?_eq_some_iff.1 h1).1 h1 h2
     rw[←h3]at hv1
     rw[Array.getElem?_toList,hv1]at hv
     injection hv with hv;subst hv
     exact⟨.d _ _ hv2,Triv.d _ _⟩
   ·cases h
  ·cases h
 unfold srcC at h
 split at h
 ·rename_i r off len cap z
  split at h
  ·rename_i cs hr
   split at h
   ·rename_i hle
    obtain⟨rfl,hle⟩:=hle
    injection h with h;injection h with h1 h2
    subst h1 h2
    obtain⟨hrn,ho⟩:=hH.get hr
    obtain⟨vs,e,fr,h1,h2,h3⟩:=Qmx ho
    cases hy with
    |osl _ _ _ _ _ _ _ hcap hcap' hroom=>
     have hsub:=h3.sub off (len*z)
     rw[Qjp _ hle,←List.map_drop,←List.map_take]at hsub
     have hl:=run_loadCells (P:=P) w ⟨g.rho r,off,none⟩ (len*z) (fun j=>vs.getD (off+j) undef) (fun j hj=>by
      have:off+j<vs.size:=by omega
      rw[add_lit,Qax h1];simp[Array.getD,this])
     rw[QdC _ _ _ (by omega)]at hl
     refine⟨by simp[Builtin.lenOf],by simp;omega,_,by simp only[Builtin.firstCells];exact hl,by simpa using hsub⟩
   ·cases h
  ·cases h
 ·exact other h
theorem Qm7(hH:HeapOK g H w)(r:Nat):HeapOK g (H.set r .dead) w where
 n:=by simp[hH.n]
 own s hs ha:=by
  refine hH.own s hs ?_
  unfold Qco at ha⊢
  by_cases e:s=r
  ·subst e
   exact absurd (List.getElem?_set_self (by rw[←hH.n];exact hs)) ha
  ·rwa [List.getElem?_set_ne (Ne.symm e)]at ha
 obj s o ho:=by
  by_cases e:s=r
  ·subst e
   have hs:=(List.getElem?_eq_some_iff.1 ho).1
   rw[List.getElem?_set_self (by simpa using hs)]at ho
   injection ho with ho;subst ho;trivial
  ·rw[List.getElem?_set_ne (Ne.symm e)]at ho
   exact hH.obj s o ho
 new:=hH.new
 glob:=hH.glob
theorem OpOK.drew{cons:List Nat}{g':Gh}{H':Qab}{w':World}{a:AV}{v:Value}(h:OpOK g w.drew cons g' H' w' a v):OpOK g w cons g' H' w' a v:=
 ⟨(QcN g w).trans h.wf,h.heap,h.vr,h.fok,fun i x u hi hf=>h.keep i x u hi (Qfn hf)⟩
theorem Qkn{r:Nat}{cs:List AV}{vs:Array Value}{e:TypeId}{fr:Nat×Nat}(h:w.heap[g.rho r]? =some (.cells vs e fr))(hz:vs.size=g.rm r)(hfr:fr.1=fr.2∨vs.size≤fr.1)
  (hl:cs.length≤vs.size)(hcl:CL g w cs (vs.toList.take cs.length)):OR g w r (.cells cs):=by
 refine⟨vs,e,fr,h,⟨hl,hz⟩,hfr,hcl.cell,fun j c v hc hv=> ?_⟩
 have hj:=(List.getElem?_eq_some_iff.1 hc).1
 have:=hcl.vr j c v hc (by rw[List.getElem?_take,if_pos hj];simpa using hv)
 exact⟨this.1,FOK.triv this.2⟩
theorem Qkq(hH:HeapOK g H w){sT xT e ty:TypeId}(hd:P.underlying sT=some (.slice e)){s:Nat}(hs:QaX P e=some s){b:Nat}(hb:Qee P e=some b){z:AV}(hz:QdD P e=some z)
  (hzc:z.cells.all AV.isCell=true)(hzl:z.cells.length=s)(hs0:0<s)(hxT:∃dx,P.underlying xT=some dx∧(dx= .string∨∃e2,dx= .slice e2))
  {str:Bool}(hstr:str=true→s=1){x y:AV}{u:Value}{n k:Nat}{xs ys:List AV}{base:Option Addr}{cap:Nat}(hx:VR g w x (.slice base n cap))(hxs:srcC false s H x=some (n,xs))
  (hy:VR g w y u)(hys:srcC str s H y=some (k,ys))(hbound:(n+k)*(b+s)≤70368744177664)(hroom:¬n+k≤cap)(H1:Qab)(hH1:HeapOK g H1 w.drew)(hl1:H1.length=H.length):
  ∃r w' g',(Builtin.append_ #[sT,xT] ty #[.slice base n cap,u]).run P w= .ok r w'∧OpOK g w cons g' (H1++ [.cells (xs++ys)]) w' (.oslice H.length 0 (n+k) (n+k) s) r:=by
 obtain⟨i,hi,rfl⟩:=Qan hs
 obtain⟨i',zv,hi',hz1,rfl⟩:=Qbu hz
 rw[hi]at hi';injection hi' with hi';subst hi'
 have hbi:i.bytes=b:=by simpa[Qee,hi]using hb
 subst hbi
 obtain⟨dx,hdx,hdi⟩:=hxT
 obtain⟨hlen,hyl,cells,hc1,hcl⟩:=Qh3 (P:=P) hH hy hys hstr hs0
 have hbs:(n+k)≤70368744177664:=by
  have h1:1≤i.bytes+i.size:=by omega
  have:=Nat.mul_le_mul_left (n+k) h1
  omega
 have hbb:(n+k)*i.bytes≤70368744177664:=Nat.le_trans (Nat.mul_le_mul_left _ (by omega)) hbound
 have hnf:(Question.appendCap (n+k) cap e).forced=false:=rfl
 have hneed:cap<n+k:=by omega
 have hnc:¬(Builtin.nextslicecap (n+k) cap*i.bytes>2^48):=by
  have h1:=Nat.mul_le_mul_right i.bytes (QgY hneed)
  have h2:3*(n+k)*i.bytes=3*((n+k)*i.bytes):=Nat.mul_assoc _ _ _
  omega
 have hmax:¬(((n+k:Nat):Int)>IntKind.i64.max):=by rw[IntKind.max_i64];omega
 rw[List.all_eq_true]at hzc
 have hzcl:=QbJ (Qbt g w zv).1 (Qbt g w zv).2 hzc
 have hzs:zv.cells.size=i.size:=by rw[←hzl,hzcl.len];simp
 generalize hcap:(Question.appendCap (n+k) cap e).cut (w.tape w.drawn (Question.appendCap (n+k) cap e))=nc
 have hnc2:n+k≤nc:=by rw[←hcap];exact Nat.le_add_right _ _
 have hyd:VR g w.drew y u:=(QcN g w).vr hy
 have hxd:VR g w.drew x (.slice base n cap):=(QcN g w).vr hx
 have hHd:=Qdg hH
 obtain⟨_,_,new,n1,n2⟩:=Qh3 (P:=P) hHd hyd hys hstr hs0
 obtain⟨_,hxl,old,o1,o2⟩:=Qh3 (P:=P) hHd hxd hxs (by simp) hs0
 have hol:old.size=n*i.size:=by have:=o2.len;simp at this;omega
 have hnl:new.size=k*i.size:=by have:=n2.len;simp at this;omega
 let rest:Array Value:=Builtin.zeroCells zv.cells (nc-(n+k))
 have hrest:rest.size=(nc-(n+k))*i.size:=by simp[rest,Builtin.zeroCells,hzs]
 have hrun:(Builtin.append_ #[sT,xT] ty #[.slice base n cap,u]).run P w=
   .ok (.slice (some ⟨w.heap.size,0,none⟩) (n+k) nc) (w.drew.alloc (.cells (old++new++rest) e)):=by
  unfold Builtin.append_
  simp only[List.getElem?_toArray,List.getElem?_cons_zero,List.getElem?_cons_succ,Sem.run_bind,run_underlying hd,Result.andThen_ok,Qaj hi]
  rcases hdi with rfl|⟨e2,rfl⟩
  ·simp only[run_underlying hdx,Sem.run_pure,Result.andThen_ok,Bool.false_eq_true,if_false,hlen,hroom,run_typeInfo w hi,Sem.run_bind,hmax,false_and,hnc,run_choose,hnf,hcap,World.drew_eq,run_askRoom,Bool.not_false,if_true]
   simp only[run_typeInfo w.drew hi,Result.andThen_ok,o1,n1,QaG hi hz1,newRow,Sem.run_bind,run_newObj,Sem.run_pure,World.alloc_eq,World.size_drew]
   rfl
  ·simp only[run_underlying hdx,Sem.run_pure,Result.andThen_ok,Bool.false_eq_true,if_false,hlen,hroom,run_typeInfo w hi,Sem.run_bind,hmax,false_and,hnc,run_choose,hnf,hcap,World.drew_eq,run_askRoom,Bool.not_false,if_true]
   simp only[run_typeInfo w.drew hi,Result.andThen_ok,o1,n1,QaG hi hz1,newRow,Sem.run_bind,run_newObj,Sem.run_pure,World.alloc_eq,World.size_drew]
   rfl
 have hsize:(old++new++rest).size=nc*i.size:=by
  simp only[Array.size_append,hol,hnl,hrest]
  rw[←Nat.add_mul,←Nat.add_mul]
  congr 1;omega
 have hor:OR (g.newObj w.drew.heap.size (Qb9 (.cells (old++new++rest) e))) (w.drew.alloc (.cells (old++new++rest) e)) g.n (.cells (xs++ys)):=by
  refine Qkn (vs:=old++new++rest) (e:=e) (fr:=(0,0)) (by rw[Qhr];exact QaF _ _) (by simp[Gh.newObj,Qb9]) (.inl rfl) (by simp[hxl,hyl,hol,hnl]) ?_
  have h1:((old++new++rest).toList.take (xs++ys).length)=old.toList++new.toList:=by
   rw[Array.toList_append,Array.toList_append,List.take_append_of_le_length (by simp[hxl,hyl,hol,hnl])]
   rw[List.take_of_length_le (by simp[hxl,hyl,hol,hnl])]
  rw[h1]
  exact(o2.append n2).mono (Qcu hH1 _)
 have:=Qfm hH1 cons (.cells (old++new++rest) e) (.cells (xs++ys)) hor (a:= .oslice H1.length 0 (n+k) (n+k) i.size) (v:= .slice (some ⟨w.drew.heap.size,0,none⟩) (n+k) nc)
  (.inr (.inr ⟨n+k,n+k,nc,i.size,rfl,rfl,Nat.le_refl _,hnc2,by simp only[Qb9];rw[hsize];exact Nat.le_refl _⟩))
 rw[hl1]at this
 exact⟨_,_,_,hrun,this.drew⟩
theorem QmD(hH:HeapOK g H w){sT xT e ty:TypeId}(hd:P.underlying sT=some (.slice e)){s:Nat}(hs:QaX P e=some s)(hs0:0<s)(hxT:∃dx,P.underlying xT=some dx∧(dx= .string∨∃e2,dx= .slice e2))
  {str:Bool}(hstr:str=true→s=1){y:AV}{u:Value}{r len cap cap' k:Nat}{cs ys:List AV}(hr:H[r]? =some (.cells cs))(hle:len*s≤cs.length)(hm:cap'*s≤g.rm r)
  (hy:VR g w y u)(hys:srcC str s H y=some (k,ys))(hroom:len+k≤cap'):
  ∃w' g',(Builtin.append_ #[sT,xT] ty #[.slice (some ⟨g.rho r,0,none⟩) len cap',u]).run P w= .ok (.slice (some ⟨g.rho r,0,none⟩) (len+k) cap') w'∧
   OpOK g w cons g' (H.set r .dead++ [.cells ((cs.take (len*s)).map AV.unf++ys)]) w' (.oslice H.length 0 (len+k) (len+k) s) (.slice (some ⟨g.rho r,0,none⟩) (len+k) cap'):=by
 obtain⟨i,hi,rfl⟩:=Qan hs
 obtain⟨dx,hdx,hdi⟩:=hxT
 obtain⟨hlen,hyl,cells,hc1,hcl⟩:=Qh3 (P:=P) hH hy hys hstr hs0
 obtain⟨hrn,vs,el,fr,h1,h2,h3,h4,h5⟩:=hH.get hr
 have hal:=Qck hr (by simp)
 have hcs:cells.toList.length=k*i.size:=by have:=hcl.len;omega
 have hmul:len*i.size+k*i.size≤vs.size:=by
  rw[←Nat.add_mul];exact Nat.le_trans (Nat.mul_le_mul_right _ hroom) (by omega)
 obtain⟨s1,s2,s3,s4⟩:=QbX (g.rho r) cells.toList (len*i.size) w
 obtain⟨cs',q1,q2⟩:=Qbq (g.rho r) cells.toList (len*i.size) w vs el fr h1 (by omega)
 have hcs':cs'.size=vs.size:=by
  have:=congrArg List.length q2
  simp at this
  simp at hcs
  omega
 have hst:=run_storeCells_cells (P:=P) (g.rho r) (len*i.size) cells.toList 0 w
  (fun j hj=>by rw[Qax h1];rw[Array.getElem?_eq_getElem (by omega)];rfl)
  (fun j hj=>Qbe h1 h3 (by omega))
  (fun v hv=>by
    obtain⟨j,hj⟩:=List.mem_iff_getElem?.1 hv
    have hjl:=(List.getElem?_eq_some_iff.1 hj).1
    have hdj:ys[j]? =some ys[j]:=List.getElem?_eq_getElem (by omega)
    exact((hcl.vr j _ v hdj hj).1.notAgg (hcl.cell _ (List.getElem_mem _))).1)
 simp only[Nat.add_zero]at hst
 have hrun:(Builtin.append_ #[sT,xT] ty #[.slice (some ⟨g.rho r,0,none⟩) len cap',u]).run P w= .ok (.slice (some ⟨g.rho r,0,none⟩) (len+k) cap') (w.setCells (g.rho r) (len*i.size) cells.toList):=by
  unfold Builtin.append_
  simp only[List.getElem?_toArray,List.getElem?_cons_zero,List.getElem?_cons_succ,Sem.run_bind,run_underlying hd,Result.andThen_ok,Qaj hi]
  rcases hdi with rfl|⟨e2,rfl⟩<;>simp[run_underlying hdx,hlen,hc1,hroom,add_lit,hst]
 have hother:∀x,x≠g.rho r→(w.setCells (g.rho r) (len*i.size) cells.toList).heap[x]? =w.heap[x]? :=fun x hx=>Qbp _ _ _ _ _ hx
 generalize hw':w.setCells (g.rho r) (len*i.size) cells.toList=w' at*
 let g':Gh:= { g with own:=fun x=>if x=g.rho r then .obj g.n else g.own x,rho:=fun q=>if q=g.n then g.rho r else g.rho q,rm:=fun q=>if q=g.n then g.rm r else g.rm q,n:=g.n+1 }
 have ho:=hH.own r hrn hal
 have hwf:WF g w g' w':= {
  os:=s1,tape:=s2,output:=s3,size:=Nat.le_of_eq s4.symm
  idle:=fun x _ hx=>by
   have e0:x≠g.rho r:=by intro e0;rw[e0,ho.1]at hx;rcases hx with h|h<;>cases h
   exact⟨hother x e0,by simp[g',e0],rfl⟩
  stays:=fun x j hj=>by
   have e0:x≠g.rho r:=by intro e0;rw[e0,ho.2]at hj;omega
   exact⟨hj,Qbh (hother x e0) j⟩
  n:=Nat.le_succ _
  rho:=fun q hq=>by simp[g',Nat.ne_of_lt hq]
  out:=fun x hx=>by
   by_cases e0:x=g.rho r
   ·simp[g',e0]at hx
   ·simpa[g',e0]using hx
  mine:=fun x hx=>by
   have e0:x≠g.rho r:=by intro e0;rw[e0,ho.1]at hx;cases hx
   simpa[g',e0]using hx
  rm:=fun q hq=>by simp[g',Nat.ne_of_lt hq] }
 have hkeep:∀ {loc:Own} {a:AV} {v:Value},(∀s,loc≠ .obj s)→FOK g w loc a v→FOK g' w' loc a v:=fun hl hf=>
  hf.keep fun x hx=>by
   have e0:x≠g.rho r:=by intro e0;rw[e0,ho.1]at hx;exact hl r hx.symm
   exact⟨by simpa[g',e0]using hx,rfl,fun c e f hh hz=>⟨c,f,by rw[hother x e0];exact hh,rfl,hz⟩⟩
 have hor:OR g' w' g.n (.cells ((cs.take (len*i.size)).map AV.unf++ys)):=by
  have hrn':g'.rho g.n=g.rho r:=by simp[g']
  have hll:((cs.take (len*i.size)).map AV.unf++ys).length=len*i.size+k*i.size:=by simp[hyl];omega
  refine Qkn (vs:=cs') (e:=el) (fr:=fr) (by rw[hrn'];exact q1) (by simp[g'];omega) (by rw[hcs'];exact h3) (by omega) ?_
  rw[hll,q2]
  have hvl:(vs.toList.take (len*i.size)).length=len*i.size:=by simp;omega
  have e1:((vs.toList.take (len*i.size))++(cells.toList++vs.toList.drop (len*i.size+cells.toList.length))).take (len*i.size+k*i.size)=vs.toList.take (len*i.size)++cells.toList:=by
   rw[←List.append_assoc,List.take_append_of_le_length (by rw[List.length_append,hvl,hcs];exact Nat.le_refl _),List.take_of_length_le (by rw[List.length_append,hvl,hcs];exact Nat.le_refl _)]
  rw[e1]
  refine(CL.append ?_ hcl).mono hwf
  obtain⟨vs2,e2,fr2,p1,p2,p3⟩:=Qmx (hH.get hr).2
  rw[h1]at p1;injection p1 with p1;injection p1 with p1 _ _;subst p1
  have:=p3.sub 0 (len*i.size)
  rw[Qjp _ (by omega)]at this
  simpa[List.map_take]using this
 have hheap:HeapOK g' (H.set r .dead++ [.cells ((cs.take (len*i.size)).map AV.unf++ys)]) w':=by
  refine⟨by simp[g',hH.n],fun q hq hqa=> ?_,fun q o hqo=> ?_,fun x hx=> ?_,fun n cs hn=>hwf.vr (hH.glob n cs hn)⟩
  ·by_cases e0:q=g.n
   ·subst e0
    exact⟨by simp[g'],by simp[g',ho.2]⟩
   ·have hq':q<g.n:=by simp only[g']at hq;omega
    unfold Qco at hqa
    rw[List.getElem?_append_left (by simp[←hH.n];exact hq')]at hqa
    have hqr:q≠r:=by
     intro e1;subst e1
     exact hqa (List.getElem?_set_self (by rw[←hH.n];exact hq'))
    rw[List.getElem?_set_ne (Ne.symm hqr)]at hqa
    have e2:g.rho q≠g.rho r:=fun e3=>hqr (hH.rho_inj hq' hrn hqa hal e3)
    simpa[g',e0,e2]using hH.own q hq' hqa
  ·by_cases e0:q<g.n
   ·rw[List.getElem?_append_left (by simp[←hH.n];exact e0)]at hqo
    by_cases hqr:q=r
    ·subst hqr
     rw[List.getElem?_set_self (by rw[←hH.n];exact e0)]at hqo
     injection hqo with hqo;subst hqo;trivial
    ·rw[List.getElem?_set_ne (Ne.symm hqr)]at hqo
     exact(hH.obj q o hqo).keep hwf e0 (fun hd'=>hother _ (fun e3=>hqr (hH.rho_inj e0 hrn (Qck hqo hd') hal e3))) (fun j a v=>hkeep (by simp))
   ·have hlt:=(List.getElem?_eq_some_iff.1 hqo).1
    simp[←hH.n]at hlt
    have:q=g.n:=by omega
    subst this
    rw[List.getElem?_append_right (by simp[←hH.n])]at hqo
    have e5:g.n-(H.set r .dead).length=0:=by simp[hH.n]
    rw[e5]at hqo
    injection hqo with hqo;subst hqo;exact hor
  ·rw[s4]at hx
   have hlt:=hH.rho_lt hrn hal
   have e0:x≠g.rho r:=by omega
   simpa[g',e0]using hH.new x hx
 refine⟨w',g',hrun,hwf,hheap, ?_,FOK.ne (by simp),fun q x u2 _ hf=>hkeep (by simp) hf⟩
 have:=VR.osl (g:=g') (w:=w') H.length 0 (len+k) (len+k) cap' i.size (by simp[g',hH.n]) (Nat.le_refl _) hroom (by simp[g',hH.n];exact hm)
 have e3:g'.rho H.length=g.rho r:=by simp[g',hH.n]
 rwa [e3]at this
theorem Qhy(hH:HeapOK g H w){sT xT e ty:TypeId}(hd:P.underlying sT=some (.slice e)){s:Nat}(hs:QaX P e=some s)(hs0:0<s)(hxT:∃dx,P.underlying xT=some dx∧(dx= .string∨∃e2,dx= .slice e2))
  {str:Bool}(hstr:str=true→s=1){y:AV}{u:Value}{n cap:Nat}{base:Option Addr}{ys:List AV}(hn:n≤cap)(hy:VR g w y u)(hys:srcC str s H y=some (0,ys)):
  (Builtin.append_ #[sT,xT] ty #[.slice base n cap,u]).run P w= .ok (.slice base n cap) w:=by
 obtain⟨i,hi,rfl⟩:=Qan hs
 obtain⟨dx,hdx,hdi⟩:=hxT
 obtain⟨hlen,hyl,cells,hc1,hcl⟩:=Qh3 (P:=P) hH hy hys hstr hs0
 have hce:cells.toList= []:=by exact List.length_eq_zero_iff.1 (by have:=hcl.len;omega)
 unfold Builtin.append_
 simp only[List.getElem?_toArray,List.getElem?_cons_zero,List.getElem?_cons_succ,Sem.run_bind,run_underlying hd,Result.andThen_ok,Qaj hi]
 rcases hdi with rfl|⟨e2,rfl⟩<;>cases base<;>simp[run_underlying hdx,hlen,hc1,hn,hce,storeCells]
theorem Qlh(hH:HeapOK g H w){sT xT e ty:TypeId}(hd:P.underlying sT=some (.slice e)){s:Nat}(hs:QaX P e=some s){b:Nat}(hb:Qee P e=some b){z:AV}(hz:QdD P e=some z)
  (hzc:z.cells.all AV.isCell=true)(hzl:z.cells.length=s)(hs0:0<s)(hxT:∃dx,P.underlying xT=some dx∧(dx= .string∨∃e2,dx= .slice e2))
  {str:Bool}(hstr:str=true→s=1){E:Qa0}{lim:Nat}{ρ:Opd→AV}{x y:Opd}{v u:Value}(hx:VR g w (ρ x) v)(hf:Triv (ρ x) v∨∃t,t∈cons∧FOK g w (.slot t) (ρ x) v)
  (hy:VR g w (ρ y) u){a:AV}{H':Qab}(h:aop E lim H ρ (.appendO s b str x y)=some (a,H')):
  ∃r w' g',(Builtin.append_ #[sT,xT] ty #[v,u]).run P w= .ok r w'∧OpOK g w cons g' H' w' a r:=by
 have triv:∀xs,ρ x= .fslice []→ρ x= .fslice xs→Triv (ρ x) v:=fun xs e0 e1=>by
  rcases hf with hf|⟨t,_,hf⟩
  ·exact hf
  ·intro ys ey
   rcases hf ys ey with h|⟨_,_,_,_,_,h,_⟩
   ·exact h
   ·rw[e0]at ey;injection ey with ey;exact absurd ey.symm h
 simp only[aop]at h
 split at h
 ·rename_i k ys hys
  by_cases hk:k=0
  ·subst hk
   rw[if_pos rfl]at h
   split at h
   ·rename_i hg
    injection h with h;injection h with h1 h2
    subst h1 h2
    obtain⟨base,n,cap,rfl,hn⟩:∃base n cap,v= .slice base n cap∧n≤cap:=by
     unfold AV.growable at hg
     split at hg
     ·rename_i hp
      rw[hp]at hx
      cases hx with
      |fsl _ _ hx=>cases hx with
       |slnil=>exact⟨_,_,_,rfl,Nat.le_refl _⟩
       |sle a c=>exact⟨_,_,_,rfl,Nat.zero_le _⟩
       |slice _ b o l c z vs h1 h2=>exact⟨_,_,_,rfl,h2⟩
     ·rename_i hp
      rw[hp]at hx
      cases hx with
      |osl _ _ _ _ _ _ _ h1 h2 _=>exact⟨_,_,_,rfl,Nat.le_trans h1 h2⟩
     ·cases hg
    obtain⟨g',hg'⟩:=OpOK.pass hH hx hf
    exact⟨_,w,g',Qhy hH hd hs hs0 hxT hstr hn hy hys,hg'⟩
   ·cases h
  ·rw[if_neg hk]at h
   split at h
   ·rename_i hp
    split at h
    ·rename_i hbd
     injection h with h;injection h with h1 h2
     subst h1 h2
     obtain⟨p,n,rfl⟩:=triv [] hp hp [] hp
     have hn0:n=0:=by
      rw[hp]at hx
      cases hx with
      |fsl _ _ hx=>cases hx with
       |slnil=>rfl
       |sle a c=>rfl
       |slice _ b o l c z vs h1 h2=>simpa using h1
     subst hn0
     have:=Qkq (P:=P) (cons:=cons) (ty:=ty) (xs:= []) (ys:=ys) hH hd hs hb hz hzc hzl hs0 hxT hstr hx (by rw[hp];rfl) hy hys (by rw[Nat.zero_add];exact hbd) (by omega) H (Qdg hH) rfl
     rw[Nat.zero_add]at this
     exact this
    ·cases h
   ·rename_i r len cap z' hp
    split at h
    ·rename_i cs hr
     split at h
     ·rename_i hc
      obtain⟨hlim,rfl,hle,hbd⟩:=hc
      injection h with h;injection h with h1 h2
      subst h1 h2
      have hx0:=hx
      rw[hp]at hx
      cases hx with
      |osl _ _ _ _ cap' _ hrn h1 h2 h3=>
       by_cases hroom:len+k≤cap'
       ·obtain⟨w',g',q1,q2⟩:=QmD (P:=P) (cons:=cons) (ty:=ty) (cap:=cap) hH hd hs hs0 hxT hstr hr hle (by omega) hy hys hroom
        exact⟨_,w',g',q1,q2⟩
       ·exact Qkq (P:=P) (cons:=cons) (ty:=ty) (xs:=(cs.take (len*z')).map AV.unf) (ys:=ys) hH hd hs hb hz hzc hzl hs0 hxT hstr hx0 (by rw[hp];simp[srcC,hr,hle]) hy hys hbd hroom (H.set r .dead) (Qdg (Qm7 hH r)) (by simp)
     ·cases h
    ·cases h
   ·cases h
 ·cases h
end ops
end Go.Abs
namespace Go.Abs
open Go.RowKit
variable [Tab]
section ops
variable {P:Program} {tk:FuncId→Nat→Bool} {g:Gh} {H:Qab} {w:World}
def Qfd(P:Program)(g:Gh)(w:World)(cons:List Nat)(o:Oper)(ρ:Operand→Value)(a:AV)(H':Qab):Prop:=
 ∃v w' g',Done ((execOp ρ o).run P w) v w'∧OpOK g w cons g' H' w' a v
theorem EvOK.triv{ρA:Opd→AV}{ρ:Operand→Value}(h:EvOK g w [] ρA ρ):EvT g w ρA ρ:=fun x y e=>by
 obtain⟨h1,h2⟩:=h x y e
 refine⟨h1,h2.resolve_right ?_⟩
 rintro⟨t,_,ht,_⟩
 cases ht
theorem Qad{cons:List Nat}{o:Oper}{ρ:Operand→Value}{a:AV}{H':Qab}{s:Sem Value}(he:execOp ρ o=(do pure (.value (←s)))){v:Value}{w':World}{g':Gh}
  (hr:s.run P w= .ok v w')(h:OpOK g w cons g' H' w' a v):Qfd P g w cons o ρ a H':=
 ⟨v,w',g',.inl (by rw[he];simp[hr]),h⟩
theorem Qew{cons:List Nat}{o:Oper}{ρ:Operand→Value}{a:AV}{H':Qab}{s:Sem Unit}(he:execOp ρ o=(do s;pure .skip)){w':World}{g':Gh}
  (hr:s.run P w= .ok () w')(h:OpOK g w cons g' H' w' a undef):Qfd P g w cons o ρ a H':=
 ⟨undef,w',g',.inr ⟨by rw[he];simp[hr],rfl⟩,h⟩
theorem Qc7{v:Value}{r off:Nat}(h:VR g w (.ptr r off) v):v= .pointer (some ⟨g.rho r,off,none⟩)∧r<g.n:=by
 cases h;exact⟨rfl,by assumption⟩
theorem QcV{v:Value}{b:Bool}(h:VR g w (.d (.bool b)) v):v= .bool b:=by
 have h:=h.d_inv;cases h;rfl
theorem QhX{v:Value}(h:VR g w .ubool v):∃b,v= .bool b:=by
 cases h;exact⟨_,rfl⟩
theorem Qhs{v:Value}{cs:List D}(h:VR g w (.pref cs) v):∃b off,v= .pointer (some ⟨b,off,none⟩):=by
 cases h;exact⟨_,_,rfl⟩
theorem QhF{v:Value}{k:IntKind}{n:Int}(h:VR g w (.d (.int k n)) v):v= .int k n:=by
 have h:=h.d_inv;cases h;rfl
theorem Qmv{v:Value}{r off len cap sz:Nat}(h:VR g w (.oslice r off len cap sz) v):∃cap',v= .slice (some ⟨g.rho r,off,none⟩) len cap'∧r<g.n:=by
 cases h;exact⟨_,rfl,by assumption⟩
theorem QhC{v:Value}{r:Nat}(h:VR g w (.mapr r) v):v= .map (some (g.rho r)):=by cases h;rfl
theorem QgX{v:Value}(h:VR g w .nilmap v):v= .map none:=by cases h;rfl
theorem Qbj{ρA:Opd→AV}{ρ:Operand→Value}(hev:EvT g w ρA ρ){x:Option Operand}{y:Option Opd}(h:Qc9 x=some y){n:Nat}{i:Int}(hi:optInt ρA n y=some i):
  ∃k,match x.map ρ with|none=>i=n|some v=>v= .int k i:=by
 cases x with
 |none=>simp[Qc9]at h;subst h;simp[optInt]at hi;exact⟨.i64,hi.symm⟩
 |some x=>
  simp only[Qc9,Option.map_eq_some_iff]at h
  obtain⟨z,hz,rfl⟩:=h
  simp only[optInt]at hi
  obtain⟨k,hk⟩:=Qde (hev x z hz).1 hi
  exact⟨k,hk⟩
set_option maxHeartbeats 1000000 in
theorem Qex{E:Qa0}{lim:Nat}{ops:List Oper}{o:Oper}{c:COp}(hc:Qaf P tk ops o=some c)(hH:HeapOK g H w){ρA:Opd→AV}{ρ:Operand→Value}
  (hev:EvOK g w (Qap ops o) ρA ρ){a:AV}{H':Qab}(h:aop E lim H ρA c=some (a,H'))(ho:(∃x,o.op= .move x)∨(∃x,o.op= .assign x)∨∃t x y,o.op= .store t x y):
  Qfd P g w (Qap ops o) o ρ a H':=by
 obtain⟨dst,op,type,pos,after,guard⟩:=o
 rcases ho with⟨x,rfl⟩|⟨x,rfl⟩|⟨t,x,y,rfl⟩
 ·simp only[Qaf,Option.map_eq_some_iff]at hc
  obtain⟨z,hz,rfl⟩:=hc
  simp[aop]at h
  obtain⟨rfl,rfl⟩:=h
  obtain⟨h1,h2⟩:=hev x z hz
  obtain⟨g',hg⟩:=OpOK.pass (cons:=Qap ops ⟨dst,.move x,type,pos,after,guard⟩) hH h1 (h2.imp id (fun⟨t,_,h3,h4⟩=>⟨t,h3,h4⟩))
  exact⟨_,_,g',.inl (by simp[execOp]),hg⟩
 ·simp only[Qaf,Option.map_eq_some_iff]at hc
  obtain⟨z,hz,rfl⟩:=hc
  simp[aop]at h
  obtain⟨rfl,rfl⟩:=h
  obtain⟨h1,h2⟩:=hev x z hz
  obtain⟨g',hg⟩:=OpOK.pass (cons:=Qap ops ⟨dst,.assign x,type,pos,after,guard⟩) hH h1 (h2.imp id (fun⟨t,_,h3,h4⟩=>⟨t,h3,h4⟩))
  exact⟨_,_,g',.inl (by simp[execOp]),hg⟩
 ·simp only[Qaf,Option.bind_eq_bind,Option.pure_def,Option.bind_eq_some_iff,Option.some.injEq]at hc
  obtain⟨s,hs,z1,hz1,z2,hz2,rfl⟩:=hc
  simp only[aop]at h
  split at h
  ·rename_i r off hp
   split at h
   ·rename_i cs hr
    split at h
    ·rename_i hcond
     obtain⟨hlim,hl,hoff,hall⟩:=hcond
     simp at h
     obtain⟨rfl,rfl⟩:=h
     obtain⟨h1,h2⟩:=hev y z2 hz2
     obtain⟨q1,q2⟩:=hev x z1 hz1
     rw[hp]at q1
     have hrn:=(hH.get hr).1
     have hpv:=(Qc7 q1).1
     obtain⟨w',g',hrun,hok⟩:=op_store (P:=P) (cons:=Qap ops ⟨dst,.store t x y,type,pos,after,guard⟩) hH hs hr h1 (h2.imp id (fun⟨t,_,h3,h4⟩=>⟨t,h3,h4⟩)) hl hoff hall
     exact Qew (s:=Instr.storeAt t (ρ x) (ρ y)) rfl (by rw[hpv];exact hrun) hok
    ·simp at h
   ·simp at h
  ·simp at h
set_option maxHeartbeats 2000000 in
theorem Qcr{E:Qa0}{lim:Nat}{ops:List Oper}{o:Oper}{c:COp}(hc:Qaf P tk ops o=some c)(hH:HeapOK g H w){ρA:Opd→AV}{ρ:Operand→Value}
  (hev:EvT g w ρA ρ){a:AV}{H':Qab}(h:aop E lim H ρA c=some (a,H'))(cons:List Nat)
  (hval:∀x,x= .const (.slice none 0 0)→ρ x= .slice none 0 0)
  (ho:match o.op with|.pick .. |.alloc _|.box .. |.build .. |.buildSlice .. |.load .. |.nilCheck _|.binOp .. |.unOp .. |.convert .. =>True|_=>False):
  Qfd P g w cons o ρ a H':=by
 obtain⟨dst,op,type,pos,after,guard⟩:=o
 cases op<;>simp only at ho
 case pick x y z=>
  simp only[Qaf,Option.bind_eq_bind,Option.pure_def,Option.bind_eq_some_iff,Option.some.injEq]at hc
  obtain⟨x',hx,y',hy,z',hz,rfl⟩:=hc
  simp only[aop]at h
  split at h
  ·rename_i t ht
   simp at h
   obtain⟨rfl,rfl⟩:=h
   have q:=(hev x x' hx).1
   rw[ht]at q
   have hb:=QcV q
   cases t
   ·exact Qad (s:=pure (ρ z)) (by simp[execOp,hb,asBool]) (by simp) (.same hH (hev z z' hz).1 (hev z z' hz).2)
   ·exact Qad (s:=pure (ρ y)) (by simp[execOp,hb,asBool]) (by simp) (.same hH (hev y y' hy).1 (hev y y' hy).2)
  ·simp at h
 case alloc e=>
  simp only[Qaf,Option.bind_eq_bind,Option.pure_def,Option.bind_eq_some_iff]at hc
  obtain⟨z,hz,hc⟩:=hc
  split at hc
  ·rename_i hall
   simp at hc;subst hc
   simp[aop]at h
   obtain⟨rfl,rfl⟩:=h
   obtain⟨v,w',g',h1,h2⟩:=op_new (P:=P) hH hz hall cons
   exact Qad rfl h1 h2
  ·simp at hc
 case box e x=>
  simp only[Qaf,Option.bind_eq_bind,Option.pure_def,Option.bind_eq_some_iff,Option.some.injEq]at hc
  obtain⟨x',hx,rfl⟩:=hc
  simp only[aop]at h
  split at h
  ·rename_i hall
   simp at h
   obtain⟨rfl,rfl⟩:=h
   obtain⟨v,w',g',h1,h2⟩:=op_box (P:=P) (e:=e) hH (hev x x' hx).1 (hev x x' hx).2 hall cons
   exact Qad rfl h1 h2
  ·simp at h
 case build t parts=>
  have hc':Qbg P t parts.toList=some c:=hc
  have hcc:∃zero ps,c= .build zero ps:=by
   unfold Qbg at hc'
   split at hc'
   ·split at hc'
    ·split at hc'
     ·simp only[Option.map_eq_some_iff]at hc';obtain⟨ps,_,rfl⟩:=hc';exact⟨_,_,rfl⟩
     ·simp at hc'
    ·simp at hc'
   ·split at hc'
    ·split at hc'
     ·simp only[Option.map_eq_some_iff]at hc';obtain⟨ps,_,rfl⟩:=hc';exact⟨_,_,rfl⟩
     ·simp at hc'
    ·simp at hc'
   ·simp at hc'
  obtain⟨zero,ps,rfl⟩:=hcc
  simp only[aop,Option.map_eq_some_iff]at h
  obtain⟨cs,hf,h⟩:=h
  simp at h
  obtain⟨rfl,rfl⟩:=h
  obtain⟨u,h1,h2⟩:=op_build (cons:=cons) hH hc' hev rfl hf
  exact Qad rfl h1 h2
 case buildSlice t len parts=>
  simp only[Qaf,Option.bind_eq_bind,Option.pure_def,Option.bind_eq_some_iff]at hc
  obtain⟨e,he,s,hs,z,hz,ps,hps,hc⟩:=hc
  have hd:P.underlying t=some (.slice e):=by
   unfold QjL at he
   split at he
   ·rename_i e' hu;simp at he;subst he;exact hu
   ·simp at he
  split at hc
  ·rename_i hcond
   simp only[Bool.and_eq_true,decide_eq_true_eq,beq_iff_eq]at hcond
   obtain⟨⟨⟨⟨hs0,hl⟩,hagg⟩,hall⟩,hzl⟩:=hcond
   simp at hc
   split at hc
   ·subst hc
    simp only[aop]at h
    split at h
    ·rename_i cs hf
     simp only[Option.map_eq_some_iff]at h
     obtain⟨xs,hx,h⟩:=h
     simp at h
     obtain⟨rfl,rfl⟩:=h
     obtain⟨us,e',h1,h2,h3⟩:=QgW (P:=P) hH hd hs hz hall hzl hs0 hl hps hev hf
     exact Qad rfl h1 (QgV hH h2 hx h3 e' _ (.inr rfl))
    ·simp at h
   ·subst hc
    simp only[aop]at h
    split at h
    ·rename_i cs hf
     obtain⟨us,e',h1,h2,h3⟩:=QgW (P:=P) hH hd hs hz hall hzl hs0 hl hps hev hf
     split at h
     ·rename_i xs hx
      simp at h
      obtain⟨rfl,rfl⟩:=h
      exact Qad rfl h1 (QgV hH h2 hx h3 e' _ (.inl rfl))
     ·simp at h
      obtain⟨rfl,rfl⟩:=h
      exact Qad rfl h1 (Qio hH h2 e' _ _ _ (Nat.le_refl _) (by omega))
    ·simp at h
  ·simp at hc
 case load t x=>
  simp only[Qaf,Option.bind_eq_bind,Option.pure_def,Option.bind_eq_some_iff]at hc
  obtain⟨s,hs,x',hx,hc⟩:=hc
  have hv:=hev x x' hx
  split at hc
  rotate_left
  ·simp at hc
  rename_i hdd
  obtain⟨d,hd⟩:=Option.isSome_iff_exists.1 hdd
  split at hc
  ·rename_i hcond
   simp only[Bool.and_eq_true,Bool.not_eq_true']at hcond
   simp at hc;subst hc
   simp only[aop]at h
   split at h
   ·rename_i r off hp
    rw[hp]at hv
    split at h
    ·rename_i cs hr
     split at h
     ·rename_i b hb
      split at h
      ·simp at h
       obtain⟨rfl,rfl⟩:=h
       obtain⟨v,g',h1,h2⟩:=Qjv (P:=P) (cons:=cons) hH hd hcond.2 hr hb
       exact Qad (s:=Instr.loadAt t (ρ x)) rfl (by rw[(Qc7 hv.1).1];exact h1) h2
      ·simp at h
     ·simp at h
    ·simp at h
   ·rename_i cs hp
    rw[hp]at hv
    simp only[Option.map_eq_some_iff]at h
    obtain⟨y,hy,h⟩:=h
    simp at h
    obtain⟨rfl,rfl⟩:=h
    obtain⟨i,hi,rfl⟩:=Qan hs
    obtain⟨u,h1,h2⟩:=Qe1 (P:=P) (t:=t) hd hs hv.1 (x:=y) (by unfold readD;rw[hcond.2];simpa using hy)
    exact Qad (s:=Instr.loadAt t (ρ x)) rfl h1 (.same hH h2 (Triv.d _ _))
   ·simp at h
  ·simp at hc;subst hc
   simp only[aop]at h
   split at h
   ·rename_i r off hp
    rw[hp]at hv
    split at h
    ·rename_i cs hr
     simp only[Option.map_eq_some_iff]at h
     obtain⟨y,hy,h⟩:=h
     simp at h
     obtain⟨rfl,rfl⟩:=h
     obtain⟨u,h1,h2,h3⟩:=QfS (P:=P) hH hd hs hr hy
     exact Qad (s:=Instr.loadAt t (ρ x)) rfl (by rw[(Qc7 hv.1).1];exact h1) (.same hH h2 h3)
    ·simp at h
   ·rename_i cs hp
    rw[hp]at hv
    simp only[Option.map_eq_some_iff]at h
    obtain⟨y,hy,h⟩:=h
    simp at h
    obtain⟨rfl,rfl⟩:=h
    obtain⟨u,h1,h2⟩:=Qe1 (P:=P) (t:=t) hd hs hv.1 hy
    exact Qad (s:=Instr.loadAt t (ρ x)) rfl h1 (.same hH h2 (Triv.d _ _))
   ·simp at h
 case nilCheck x=>
  simp only[Qaf,Option.map_eq_some_iff]at hc
  obtain⟨x',hx,rfl⟩:=hc
  have hv:=hev x x' hx
  simp only[aop]at h
  split at h
  ·rename_i r off hp
   rw[hp]at hv
   simp at h
   obtain⟨rfl,rfl⟩:=h
   have e:=(Qc7 hv.1).1
   exact Qad (s:=pure (ρ x)) (by simp[execOp,e]) (by simp) (.same hH hv.1 hv.2)
  ·rename_i cs hp
   rw[hp]at hv
   simp at h
   obtain⟨rfl,rfl⟩:=h
   obtain⟨b,off,e⟩:=Qhs hv.1
   exact Qad (s:=pure (ρ x)) (by simp[execOp,e]) (by simp) (.same hH hv.1 hv.2)
  ·rename_i t y hp
   rw[hp]at hv
   simp at h
   obtain⟨rfl,rfl⟩:=h
   have e:∃u,ρ x= .iface t u:=by
    have q:=hv.1
    generalize ρ x=z at q
    cases q;exact⟨_,rfl⟩
   obtain⟨u,e⟩:=e
   exact Qad (s:=pure (ρ x)) (by simp[execOp,e]) (by simp) (.same hH hv.1 hv.2)
  ·rename_i f caps hp
   rw[hp]at hv
   simp at h
   obtain⟨rfl,rfl⟩:=h
   have e:∃u,ρ x= .func (.func f) #[] u:=by
    have q:=hv.1
    generalize ρ x=z at q
    cases q;exact⟨_,rfl⟩
   obtain⟨u,e⟩:=e
   exact Qad (s:=pure (ρ x)) (by simp[execOp,e]) (by simp) (.same hH hv.1 hv.2)
  ·simp at h
 case binOp bop t x y yt=>
  simp only[Qaf,Option.bind_eq_bind,Option.pure_def,Option.bind_eq_some_iff]at hc
  obtain⟨x',hx,y',hy,hc⟩:=hc
  have hvx:=hev x x' hx
  have hvy:=hev y y' hy
  have fin:∀k,KOK P t x y k→aop E lim H ρA (.bin bop k x' y')=some (a,H')→Qfd P g w cons ⟨dst,.binOp bop t x y yt,type,pos,after,guard⟩ ρ a H':=by
   intro k hk h
   simp only[aop,Option.map_eq_some_iff]at h
   obtain⟨b,hb,h⟩:=h
   simp at h
   obtain⟨rfl,rfl⟩:=h
   obtain⟨r,h1,h2,h3⟩:=op_bin (P:=P) hvx.1 hvy.1 x y hk hb
   exact Qad rfl h1 (.same hH h2 h3)
  split at hc
  ·rename_i e hu
   have nil_:∀neg,(bop=if neg then .neq else .eql)→y= .const (.slice none 0 0)→aop E lim H ρA (.nilSl neg x')=some (a,H')→Qfd P g w cons ⟨dst,.binOp bop t x y yt,type,pos,after,guard⟩ ρ a H':=by
    intro neg hb hyc h
    simp only[aop]at h
    split at h
    ·rename_i ho
     injection h with h;injection h with h1 h2
     subst h1 h2
     have hyv:ρ y= .slice none 0 0:=hval y hyc
     have hs:∃p n c,ρ x= .slice (some p) n c:=by
      have hvr:=hvx.1
      generalize ρA x'=q at ho hvr
      cases q with
      |oslice r off len cap sz=>obtain⟨_,e,_⟩:=Qmv hvr;exact⟨_,_,_,e⟩
      |_=>cases ho
     obtain⟨p,n,c,hs⟩:=hs
     subst hb
     have he:=run_equal_slice_nil (P:=P) w t e (some p) n c hu
     refine Qad (s:=(do eqGuard (if neg then .neq else .eql) t x y (ρ x) (ρ y);binOp (if neg then .neq else .eql) t (ρ x) (ρ y))) rfl (v:= .bool neg) ?_ (.same hH (.d _ _ (.bool _)) (Triv.d _ _))
     rw[hs,hyv]
     cases neg<;>simp[eqGuard_at_slice,binOp,he]
    split at h
    ·rename_i z zs he
     simp at h
     obtain⟨rfl,rfl⟩:=h
     have hdr:=QcE hvx.1 he
     have hyv:ρ y= .slice none 0 0:=hval y hyc
     have hs:∃p n c,ρ x= .slice (some p) n c:=by
      generalize ρ x=q at hdr
      cases hdr;exact⟨_,_,_,rfl⟩
     obtain⟨p,n,c,hs⟩:=hs
     subst hb
     have he:=run_equal_slice_nil (P:=P) w t e (some p) n c hu
     refine Qad (s:=(do eqGuard (if neg then .neq else .eql) t x y (ρ x) (ρ y);binOp (if neg then .neq else .eql) t (ρ x) (ρ y))) rfl (v:= .bool neg) ?_ (.same hH (.d _ _ (.bool _)) (Triv.d _ _))
     rw[hs,hyv]
     cases neg<;>simp[eqGuard_at_slice,binOp,he]
    ·rename_i he
     simp at h
     obtain⟨rfl,rfl⟩:=h
     have hdr:=QcE hvx.1 he
     have hyv:ρ y= .slice none 0 0:=hval y hyc
     have hs:∃p n c,ρ x= .slice p n c:=by
      generalize ρ x=q at hdr
      cases hdr<;>exact⟨_,_,_,rfl⟩
     obtain⟨p,n,c,hs⟩:=hs
     subst hb
     have he:=run_equal_slice_nil (P:=P) w t e p n c hu
     refine Qad (s:=(do eqGuard (if neg then .neq else .eql) t x y (ρ x) (ρ y);binOp (if neg then .neq else .eql) t (ρ x) (ρ y))) rfl (v:= .bool (if neg then !p.isNone else p.isNone)) ?_ (.same hH (.ubool _) (fun xs e=>by cases e))
     rw[hs,hyv]
     cases neg<;>simp[eqGuard_at_slice,binOp,he]
    ·simp at h
   split at hc
   ·simp at hc;subst hc;exact nil_ false rfl rfl h
   ·simp at hc;subst hc;exact nil_ true rfl rfl h
   ·simp at hc
  ·rename_i ms hu
   cases x<;>cases y<;>simp at hc<;>subst hc<;>refine fin .iface ⟨⟨_,hu⟩, ?_⟩ h<;>first|exact .inl ⟨_,rfl⟩|exact .inr ⟨_,rfl⟩
  ·rename_i e hu;simp at hc;subst hc;exact fin .ptr ⟨_,hu⟩ h
  ·rename_i k e hu;simp at hc;subst hc;exact fin .map ⟨_,_,hu⟩ h
  ·rename_i p q r hu;simp at hc;subst hc;exact fin .func ⟨_,_,_,hu⟩ h
  ·rename_i hu;simp at hc;subst hc;exact fin .bool hu h
  ·rename_i fs hu
   split at hc
   ·rename_i n hn;simp at hc;subst hc;exact fin (.plain n) hn h
   ·simp at hc
  ·simp at hc;subst hc;exact fin .none trivial h
  ·simp at hc
 case unOp uop t x=>
  simp only[Qaf,Option.bind_eq_bind,Option.pure_def,Option.bind_eq_some_iff,Option.some.injEq]at hc
  obtain⟨x',hx,rfl⟩:=hc
  simp only[aop,Option.map_eq_some_iff]at h
  obtain⟨b,hb,h⟩:=h
  simp at h
  obtain⟨rfl,rfl⟩:=h
  obtain⟨r,h1,h2,h3⟩:=op_un (P:=P) (hev x x' hx).1 hb
  exact Qad rfl h1 (.same hH h2 h3)
 case convert src dst x=>
  simp only[Qaf,Option.bind_eq_bind,Option.pure_def,Option.bind_eq_some_iff]at hc
  obtain⟨x',hx,hc⟩:=hc
  have hv:=hev x x' hx
  split at hc
  ·rename_i k' k hs hd
   simp at hc;subst hc
   simp only[aop]at h
   split at h
   ·rename_i j n hp
    simp at h
    obtain⟨rfl,rfl⟩:=h
    rw[hp]at hv
    exact Qad (s:=convert src dst (ρ x)) rfl (by rw[QhF hv.1];exact op_toInt hs hd j n) (.same hH (.d _ _ (.int _ _)) (Triv.d _ _))
   ·simp at h
  ·rename_i hs hd
   simp at hc;subst hc
   simp only[aop]at h
   split at h
   ·rename_i l hp
    simp at h
    obtain⟨rfl,rfl⟩:=h
    rw[hp]at hv
    obtain⟨s,e,rfl⟩:=QdF hv.1
    exact Qad (s:=convert src dst (ρ x)) rfl (by rw[e];exact op_same hs hd s) (.same hH (.d _ _ (.str _ _ rfl)) (Triv.d _ _))
   ·simp at h
  ·rename_i k' hs hd
   simp at hc;subst hc
   simp only[aop]at h
   split at h
   ·rename_i j n hp
    simp at h
    obtain⟨rfl,rfl⟩:=h
    rw[hp]at hv
    exact Qad (s:=convert src dst (ρ x)) rfl (by rw[QhF hv.1];exact QmE hs hd j n) (.same hH (.d _ _ (.str _ _ rfl)) (Triv.d _ _))
   ·simp at h
  ·rename_i e1 e2 hs hd
   split at hc
   ·rename_i hcond
    simp only[Bool.and_eq_true,beq_iff_eq]at hcond
    obtain⟨rfl,hu8⟩:=hcond
    simp at hc;subst hc
    have he:P.underlying e2=some (.int .u8):=by
     unfold isU8 at hu8
     split at hu8
     ·assumption
     ·simp at hu8
    simp only[aop]at h
    split at h
    ·rename_i xs hp
     simp at h
     obtain⟨rfl,rfl⟩:=h
     rw[hp]at hv
     obtain⟨w',h1,h2⟩:=QmB (P:=P) (cons:=cons) hH hd he hv.1
     exact Qad (s:=convert src src (ρ x)) rfl h1 h2
    ·simp at h
   ·simp at hc
  ·rename_i e hs hd
   split at hc
   ·rename_i hu8
    simp at hc;subst hc
    have he:P.underlying e=some (.int .u8):=by
     unfold isU8 at hu8
     split at hu8
     ·assumption
     ·simp at hu8
    simp only[aop]at h
    split at h
    ·rename_i l hp
     simp at h
     obtain⟨rfl,rfl⟩:=h
     rw[hp]at hv
     obtain⟨u,w',g',h1,h2⟩:=Qld (P:=P) (cons:=cons) hH hs hd he hv.1
     exact Qad (s:=convert src dst (ρ x)) rfl h1 h2
    ·simp at h
   ·simp at hc
  ·rename_i e hs hd
   split at hc
   ·rename_i hu8
    simp at hc;subst hc
    have he:P.underlying e=some (.int .u8):=by
     unfold isU8 at hu8
     split at hu8
     ·assumption
     ·simp at hu8
    simp only[aop]at h
    split at h
    ·rename_i xs hp
     rw[hp]at hv
     simp only[Option.map_eq_some_iff]at h
     obtain⟨s,hb,h⟩:=h
     simp at h
     obtain⟨rfl,rfl⟩:=h
     obtain⟨u,h1,h2⟩:=Qkp (P:=P) hs hd he hv.1.d_inv hb
     exact Qad (s:=convert src dst (ρ x)) rfl h1 (.same hH h2 (Triv.d _ _))
    ·rename_i xs hp
     rw[hp]at hv
     simp only[Option.map_eq_some_iff]at h
     obtain⟨s,hb,h⟩:=h
     simp at h
     obtain⟨rfl,rfl⟩:=h
     obtain⟨u,h1,h2⟩:=Qkp (P:=P) hs hd he (QcE hv.1 rfl) hb
     exact Qad (s:=convert src dst (ρ x)) rfl h1 (.same hH h2 (Triv.d _ _))
    ·rename_i r off len cap sz hp
     rw[hp]at hv
     split at h
     ·rename_i hsz
      subst hsz
      split at h
      ·rename_i cs hr
       split at h
       ·rename_i hle
        simp only[Option.map_eq_some_iff]at h
        obtain⟨s,hb,h⟩:=h
        simp at h
        obtain⟨rfl,rfl⟩:=h
        obtain⟨u,h1,h2⟩:=Qin (P:=P) hH hs hd he hv.1 hr hle hb
        exact Qad (s:=convert src dst (ρ x)) rfl h1 (.same hH h2 (Triv.d _ _))
       ·simp at h
      ·simp at h
     ·simp at h
    ·simp at h
   ·simp at hc
  ·simp at hc
end ops
end Go.Abs
namespace Go.Abs
open Go.RowKit
variable [Tab]
section ops
variable {P:Program} {tk:FuncId→Nat→Bool} {g:Gh} {H:Qab} {w:World}
theorem QeH{t e:TypeId}(he:QjL P t=some e):P.underlying t=some (.slice e):=by
 unfold QjL at he
 split at he
 ·rename_i e' hu;simp at he;subst he;exact hu
 ·simp at he
set_option maxHeartbeats 4000000 in
theorem Qbr{E:Qa0}{lim:Nat}{ops:List Oper}{o:Oper}{c:COp}(hc:Qaf P tk ops o=some c)(hH:HeapOK g H w){ρA:Opd→AV}{ρ:Operand→Value}
  (hev:EvT g w ρA ρ){a:AV}{H':Qab}(h:aop E lim H ρA c=some (a,H'))(cons:List Nat)
  (ho:match o.op with|.makeInterface .. |.makeFunc .. |.makeMap .. |.makeSlice .. |.slice .. |.fieldAddr .. |.field .. |.indexAddr .. |.index .. |.lookup .. |.mapUpdate .. |.insert .. |.range .. |.next .. |.extract .. =>True|_=>False):
  Qfd P g w cons o ρ a H':=by
 obtain⟨dst,op,type,pos,after,guard⟩:=o
 cases op<;>simp only at ho
 case makeInterface t x=>
  simp only[Qaf,Option.bind_eq_bind,Option.pure_def,Option.bind_eq_some_iff]at hc
  obtain⟨x',hx,hc⟩:=hc
  split at hc
  ·simp at hc
  ·rename_i d hn hu
   simp at hc;subst hc
   simp[aop]at h
   obtain⟨rfl,rfl⟩:=h
   have hv:=hev x x' hx
   refine Qad (s:=Instr.makeInterface t (ρ x)) rfl (v:= .iface t (ρ x)) ?_ (.same hH (.iface _ _ _ hv.1 hv.2) (fun xs e=>by cases e))
   simp only[Instr.makeInterface,Sem.run_bind,run_underlying hu,Result.andThen_ok]
   cases d<;>first|rfl|exact(hn _ rfl).elim
  ·simp at hc
 case makeFunc fn first caps=>
  simp only[Qaf,Option.bind_eq_bind,Option.pure_def]at hc
  split at hc
  ·rename_i he
   simp only[Option.bind_eq_some_iff,Option.some.injEq]at hc
   obtain⟨cs,hcs,rfl⟩:=hc
   simp[aop]at h
   obtain⟨rfl,rfl⟩:=h
   obtain⟨q1,q2⟩:=Qd1 hcs
   have hf:first= #[]:=by simpa using he
   subst hf
   refine Qad (s:=Instr.makeFunc fn ((#[]:Array Operand).map ρ) (caps.map ρ)) rfl (v:= .func fn #[] (caps.map ρ)) (by simp[Instr.makeFunc]) (.same hH (.func _ _ _ (by simp[q1]) (fun i c v hc hv=> ?_) (fun i c v hc hv=> ?_)) (fun xs e=>by cases e))
   ·simp only[List.getElem?_map,Option.map_eq_some_iff]at hc
    obtain⟨y,hy,rfl⟩:=hc
    simp only[Array.getElem?_map,Option.map_eq_some_iff]at hv
    obtain⟨x,hx,rfl⟩:=hv
    exact(hev x y (q2 i x y (by simpa using hx) hy)).1
   ·simp only[List.getElem?_map,Option.map_eq_some_iff]at hc
    obtain⟨y,hy,rfl⟩:=hc
    simp only[Array.getElem?_map,Option.map_eq_some_iff]at hv
    obtain⟨x,hx,rfl⟩:=hv
    exact(hev x y (q2 i x y (by simpa using hx) hy)).2
  ·simp at hc
 case makeMap t r=>
  cases r with
  |some r=>simp[Qaf]at hc
  |none=>
   simp only[Qaf]at hc
   split at hc
   ·simp only[Option.map_eq_some_iff]at hc
    obtain⟨kk,_,rfl⟩:=hc
    simp[aop]at h
    obtain⟨rfl,rfl⟩:=h
    obtain⟨w',g',h1,h2⟩:=op_mkMap (P:=P) (cons:=cons) hH t kk
    exact Qad (s:=Instr.makeMap t ((none:Option Operand).map ρ)) rfl h1 h2
   ·simp at hc
 case makeSlice t l cc=>
  simp only[Qaf,Option.bind_eq_bind,Option.pure_def,Option.bind_eq_some_iff]at hc
  obtain⟨e,he,s,hs,b,hb,z,hz,hc⟩:=hc
  have hd:=QeH he
  split at hc
  ·rename_i hcond
   simp only[Bool.and_eq_true,decide_eq_true_eq]at hcond
   obtain⟨⟨hs0,hall⟩,hzl⟩:=hcond
   simp only[Option.bind_eq_some_iff,Option.some.injEq]at hc
   obtain⟨l',hl,c',hc',rfl⟩:=hc
   simp only[aop]at h
   split at h
   ·rename_i k1 n1 k2 n2 p1 p2
    split at h
    ·rename_i hcond
     obtain⟨a0,a1,a2,a3⟩:=hcond
     simp at h
     obtain⟨rfl,rfl⟩:=h
     have q1:=(hev l l' hl).1
     have q2:=(hev cc c' hc').1
     rw[p1]at q1;rw[p2]at q2
     obtain⟨w',g',h1,h2⟩:=op_mkSl (P:=P) (cons:=cons) hH hd hs hb hz hall hs0 hzl k1 k2 a0 a1 a2 a3
     exact Qad (s:=Instr.makeSlice t (ρ l) (ρ cc)) rfl (by rw[QhF q1,QhF q2];exact h1) h2
    ·simp at h
   ·simp at h
  ·simp at hc
 case slice t x lo hi mx=>
  simp only[Qaf,Option.bind_eq_bind,Option.pure_def,Option.bind_eq_some_iff]at hc
  obtain⟨x',hx,lo',hlo,hi',hhi,mx',hmx,hc⟩:=hc
  have hv:=hev x x' hx
  split at hc
  ·rename_i hd
   split at hc
   ·rename_i hm
    simp at hc;subst hc
    have hmn:mx=none:=by cases mx<;>simp at hm;rfl
    subst hmn
    simp only[aop]at h
    split at h
    ·rename_i s hp
     split at h
     ·rename_i l hh q1 q2
      split at h
      ·rename_i hcond
       simp at h
       obtain⟨rfl,rfl⟩:=h
       rw[hp]at hv
       obtain⟨ka,ea⟩:=Qbj hev hlo q1
       obtain⟨kb,eb⟩:=Qbj hev hhi q2
       obtain⟨u,h1,h2⟩:=op_slStr (P:=P) hd hv.1 ea eb hcond.1 hcond.2.1 hcond.2.2
       exact Qad (s:=Instr.sliceAt t (ρ x) (lo.map ρ) (hi.map ρ) ((none:Option Operand).map ρ)) rfl h1 (.same hH h2 (Triv.d _ _))
      ·simp at h
     ·simp at h
    ·simp at h
   ·simp at hc
  ·rename_i e hd
   split at hc
   rotate_left
   ·simp at hc
   rename_i hmh0
   have hmh:(mx.map ρ).isSome=true→(hi.map ρ).isSome=true:=by
    cases mx<;>cases hi<;>simp at hmh0⊢
   simp only[Option.bind_eq_some_iff,Option.some.injEq]at hc
   obtain⟨s,hs,rfl⟩:=hc
   simp only[aop]at h
   split at h
   ·rename_i r off len cap sz hp
    split at h
    ·rename_i l hh m q1 q2 q3
     split at h
     ·rename_i hcond
      obtain⟨a0,a1,a2,a3,a4⟩:=hcond
      have hmi:mx'.isSome=(mx.map ρ).isSome:=by
       cases mx with
       |none=>simp[Qc9]at hmx;subst hmx;rfl
       |some q=>simp only[Qc9,Option.map_eq_some_iff]at hmx;obtain⟨_,_,rfl⟩:=hmx;rfl
      obtain⟨ea',rfl⟩:a=(if l=hh then(if(mx.map ρ).isSome=true∧m=l then AV.fslice []else .d (.slice []))else .oslice r (off+l.toNat*sz) (hh-l).toNat (m-l).toNat sz)∧H'=H:=by
       rw[←hmi]
       by_cases hlh:l=hh
       ·rw[if_pos hlh]at h⊢;injection h with h;injection h with e1 e2;exact⟨e1.symm,e2.symm⟩
       ·rw[if_neg hlh]at h⊢;injection h with h;injection h with e1 e2;exact⟨e1.symm,e2.symm⟩
      rw[hp]at hv
      obtain⟨ka,ea⟩:=Qbj hev hlo q1
      obtain⟨kb,eb⟩:=Qbj hev hhi q2
      obtain⟨km,em⟩:=Qbj hev hmx q3
      obtain⟨u,h1,h2⟩:=QmA (P:=P) hd hs hv.1 a4 ea eb em hmh a0 a1 a2 a3
      obtain⟨h3,h4⟩:=h2 a ea'
      exact Qad (s:=Instr.sliceAt t (ρ x) (lo.map ρ) (hi.map ρ) (mx.map ρ)) rfl h1 (.same hH h3 h4)
     ·simp at h
    ·simp at h
   ·split at h
    ·rename_i xs he
     split at h
     ·rename_i l hh q1 q2
      split at h
      ·rename_i hcond
       obtain⟨a0,a1,a2,a3⟩:=hcond
       obtain⟨ka,ea⟩:=Qbj hev hlo q1
       obtain⟨kb,eb⟩:=Qbj hev hhi q2
       split at h
       ·simp at h
        obtain⟨rfl,rfl⟩:=h
        have hmn:mx=none:=by cases mx with|none=>rfl|some m=>simp only[Qc9,Option.map_eq_some_iff]at hmx;obtain⟨_,_,e⟩:=hmx;cases e
        subst hmn
        obtain⟨u,h1,h2,h3⟩:=op_sl (P:=P) hd hs hv.1 he (mx:=none) ea eb a0 a1 a2 (.inl rfl) (by simp) a3
        exact Qad (s:=Instr.sliceAt t (ρ x) (lo.map ρ) (hi.map ρ) ((none:Option Operand).map ρ)) rfl h1 (.same hH h2 h3)
       ·rename_i m
        split at h
        ·rename_i hm2
         simp at h
         obtain⟨rfl,rfl⟩:=h
         cases mx with
         |none=>simp[Qc9]at hmx
         |some m0=>
          simp only[Qc9,Option.map_eq_some_iff]at hmx
          obtain⟨y,hy,e1⟩:=hmx
          injection e1 with e1;subst e1
          obtain⟨km,ekm⟩:=Qde (hev m0 y hy).1 hm2
          obtain⟨u,h1,h2,h3⟩:=op_sl (P:=P) hd hs hv.1 he (mx:=some (ρ m0)) ea eb a0 a1 a2 (.inr ⟨km,by rw[ekm]⟩) (by simpa using hmh) a3
          exact Qad (s:=Instr.sliceAt t (ρ x) (lo.map ρ) (hi.map ρ) ((some m0:Option Operand).map ρ)) rfl h1 (.same hH h2 h3)
        ·simp at h
      ·simp at h
     ·simp at h
    ·simp at h
  ·rename_i n e hd
   split at hc
   ·rename_i hm
    have hmn:mx=none:=by cases mx<;>simp at hm;rfl
    subst hmn
    simp only[Option.bind_eq_some_iff,Option.some.injEq]at hc
    obtain⟨s,hs,rfl⟩:=hc
    simp only[aop]at h
    split at h
    ·rename_i r off hp
     split at h
     ·rename_i l hh q1 q2
      split at h
      ·rename_i hcond
       simp at h
       obtain⟨rfl,rfl⟩:=h
       rw[hp]at hv
       obtain⟨ka,ea⟩:=Qbj hev hlo q1
       obtain⟨kb,eb⟩:=Qbj hev hhi q2
       obtain⟨u,h1,h2⟩:=op_slArr (P:=P) hH hd hs hv.1 ea eb hcond.1 hcond.2.1 hcond.2.2.1 hcond.2.2.2
       exact Qad (s:=Instr.sliceAt t (ρ x) (lo.map ρ) (hi.map ρ) ((none:Option Operand).map ρ)) rfl h1 (.same hH h2 (fun xs e=>by cases e))
      ·simp at h
     ·simp at h
    ·simp at h
   ·simp at hc
  ·simp at hc
 case fieldAddr s x f=>
  simp only[Qaf]at hc
  split at hc
  ·rename_i fs hd
   simp only[Option.bind_eq_bind,Option.pure_def,Option.bind_eq_some_iff]at hc
   obtain⟨fl,hf,z,hz,hc⟩:=hc
   split at hc
   ·simp at hc
   ·rename_i hz0
    simp only[Option.bind_eq_some_iff,Option.some.injEq]at hc
    obtain⟨x',hx,rfl⟩:=hc
    have hv:=hev x x' hx
    simp only[aop]at h
    split at h
    ·rename_i r off hp
     rw[hp]at hv
     simp at h
     obtain⟨rfl,rfl⟩:=h
     obtain⟨e,hrn⟩:=Qc7 hv.1
     exact Qad (s:=Instr.fieldAt s (ρ x) f) rfl (by rw[e];exact Qe2 hd hf hz hz0 _ _) (.same hH (.ptr _ _ hrn) (fun xs e=>by cases e))
    ·rename_i cs hp
     rw[hp]at hv
     simp at h
     obtain⟨rfl,rfl⟩:=h
     obtain⟨b,off,e⟩:=Qhs hv.1
     have hv1:=hv.1
     rw[e]at hv1
     exact Qad (s:=Instr.fieldAt s (ρ x) f) rfl (by rw[e];exact Qe2 hd hf hz hz0 _ _) (.same hH (Qig hv1 _) (fun xs e=>by cases e))
    ·simp at h
  ·simp at hc
 case field s x f=>
  simp only[Qaf]at hc
  split at hc
  ·rename_i fs hd
   simp only[Option.bind_eq_bind,Option.pure_def,Option.bind_eq_some_iff]at hc
   obtain⟨fl,hf,hc⟩:=hc
   split at hc
   ·rename_i hdf
    obtain⟨d,hdf⟩:=Option.isSome_iff_exists.1 hdf
    simp only[Option.bind_eq_some_iff,Option.some.injEq]at hc
    obtain⟨z,hz,x',hx,rfl⟩:=hc
    have hv:=hev x x' hx
    simp only[aop]at h
    split at h
    ·rename_i cs hp
     rw[hp]at hv
     simp only[Option.map_eq_some_iff]at h
     obtain⟨y,hy,h⟩:=h
     simp at h
     obtain⟨rfl,rfl⟩:=h
     obtain⟨u,h1,h2,h3⟩:=Qit (P:=P) hd hf hz hdf hv.1 hy
     exact Qad (s:=Instr.field s (ρ x) f) rfl h1 (.same hH h2 h3)
    ·rename_i cs hp
     rw[hp]at hv
     simp only[Option.map_eq_some_iff]at h
     obtain⟨y,hy,h⟩:=h
     simp at h
     obtain⟨rfl,rfl⟩:=h
     obtain⟨u,h1,h2⟩:=Qlg (P:=P) hd hf hz hdf hv.1 hy
     exact Qad (s:=Instr.field s (ρ x) f) rfl h1 (.same hH h2 (Triv.d _ _))
    ·simp at h
   ·simp at hc
  ·simp at hc
 case indexAddr t x i=>
  simp only[Qaf,Option.bind_eq_bind,Option.pure_def,Option.bind_eq_some_iff]at hc
  obtain⟨x',hx,i',hi,hc⟩:=hc
  have hv:=hev x x' hx
  have hvi:=hev i i' hi
  split at hc
  ·rename_i e hd
   simp only[Option.bind_eq_some_iff]at hc
   obtain⟨s,hs,hc⟩:=hc
   split at hc
   ·simp at hc
   ·simp at hc;subst hc
    simp only[aop]at h
    split at h
    ·rename_i n hn
     obtain⟨k,hk⟩:=Qde hvi.1 hn
     split at h
     ·rename_i r off len cap z hp
      split at h
      ·rename_i hcond
       simp at h
       obtain⟨rfl,rfl⟩:=h
       rw[hp]at hv
       obtain⟨u,h1,h2⟩:=Qir (P:=P) hd hs hk hv.1 hcond.1 hcond.2.1
       exact Qad (s:=Instr.indexAt t (ρ x) (ρ i)) rfl h1 (.same hH h2 (fun xs e=>by cases e))
      ·simp at h
     ·split at h
      ·rename_i xs he
       split at h
       ·rename_i h0
        split at h
        ·rename_i x0 hx0
         split at h
         ·rename_i hsz
          simp at h
          obtain⟨rfl,rfl⟩:=h
          obtain⟨u,h1,h2⟩:=op_idxSl (P:=P) hd hs hk hv.1 he h0 hx0 hsz
          exact Qad (s:=Instr.indexAt t (ρ x) (ρ i)) rfl h1 (.same hH h2 (fun xs e=>by cases e))
         ·simp at h
        ·simp at h
       ·simp at h
      ·simp at h
    ·simp at h
  ·rename_i m e hd
   simp only[Option.bind_eq_some_iff,Option.some.injEq]at hc
   obtain⟨s,hs,rfl⟩:=hc
   simp only[aop]at h
   split at h
   ·rename_i n r off hn hp
    obtain⟨k,hk⟩:=Qde hvi.1 hn
    split at h
    ·rename_i hcond
     simp at h
     obtain⟨rfl,rfl⟩:=h
     rw[hp]at hv
     obtain⟨e1,hrn⟩:=Qc7 hv.1
     exact Qad (s:=Instr.indexAt t (ρ x) (ρ i)) rfl (by rw[e1];exact Qis hd hs hk _ _ hcond.1 hcond.2) (.same hH (.ptr _ _ hrn) (fun xs e=>by cases e))
    ·simp at h
   ·rename_i n cs hn hp
    obtain⟨k,hk⟩:=Qde hvi.1 hn
    split at h
    ·rename_i hcond
     simp at h
     obtain⟨rfl,rfl⟩:=h
     rw[hp]at hv
     obtain⟨b,off,e1⟩:=Qhs hv.1
     have hv1:=hv.1
     rw[e1]at hv1
     exact Qad (s:=Instr.indexAt t (ρ x) (ρ i)) rfl (by rw[e1];exact Qis hd hs hk _ _ hcond.1 hcond.2) (.same hH (Qig hv1 _) (fun xs e=>by cases e))
    ·simp at h
   ·simp at h
  ·simp at hc
 case index t x i=>
  simp only[Qaf,Option.bind_eq_bind,Option.pure_def,Option.bind_eq_some_iff]at hc
  obtain⟨x',hx,i',hi,hc⟩:=hc
  have hv:=hev x x' hx
  have hvi:=hev i i' hi
  split at hc
  ·rename_i hd
   simp at hc;subst hc
   simp only[aop]at h
   split at h
   ·rename_i n s hn hp
    obtain⟨k,hk⟩:=Qde hvi.1 hn
    split at h
    ·rename_i h0
     simp only[Option.map_eq_some_iff]at h
     obtain⟨b,hb,h⟩:=h
     simp at h
     obtain⟨rfl,rfl⟩:=h
     rw[hp]at hv
     exact Qad (s:=Instr.index t (ρ x) (ρ i)) rfl (QmG hd hk hv.1 h0 hb) (.same hH (.d _ _ (.int _ _)) (Triv.d _ _))
    ·simp at h
   ·simp at h
  ·rename_i m e hd
   split at hc
   ·rename_i hde
    obtain⟨de,hde⟩:=Option.isSome_iff_exists.1 hde
    simp only[Option.bind_eq_some_iff,Option.some.injEq]at hc
    obtain⟨s,hs,rfl⟩:=hc
    simp only[aop]at h
    split at h
    ·rename_i n cs hn hp
     obtain⟨k,hk⟩:=Qde hvi.1 hn
     split at h
     ·rename_i hcond
      simp only[Option.map_eq_some_iff]at h
      obtain⟨y,hy,h⟩:=h
      simp at h
      obtain⟨rfl,rfl⟩:=h
      rw[hp]at hv
      obtain⟨u,h1,h2,h3⟩:=QmH (P:=P) hd hde hs hk hv.1 hcond.1 hcond.2 hy
      exact Qad (s:=Instr.index t (ρ x) (ρ i)) rfl h1 (.same hH h2 h3)
     ·simp at h
    ·rename_i n cs hn hp
     obtain⟨k,hk⟩:=Qde hvi.1 hn
     split at h
     ·rename_i hcond
      simp only[Option.map_eq_some_iff]at h
      obtain⟨y,hy,h⟩:=h
      simp at h
      obtain⟨rfl,rfl⟩:=h
      rw[hp]at hv
      obtain⟨u,h1,h2⟩:=Qjw (P:=P) hd hde hs hk hv.1 hcond.1 hcond.2 hy
      exact Qad (s:=Instr.index t (ρ x) (ρ i)) rfl h1 (.same hH h2 (Triv.d _ _))
     ·simp at h
    ·simp at h
   ·simp at hc
  ·simp at hc
 case lookup t x i ok=>
  simp only[Qaf,Option.bind_eq_bind,Option.pure_def,Option.bind_eq_some_iff]at hc
  obtain⟨x',hx,i',hi,hc⟩:=hc
  have hv:=hev x x' hx
  have hvi:=hev i i' hi
  split at hc
  ·rename_i kt e hd
   simp only[Option.bind_eq_some_iff,Option.some.injEq]at hc
   obtain⟨kk,hkk,z,hz,rfl⟩:=hc
   simp only[aop]at h
   split at h
   ·rename_i es k hes hk
    have hes':(ρA x'= .nilmap∧es= [])∨∃r,ρA x'= .mapr r∧H[r]? =some (.map kk es):=by
     split at hes
     ·rename_i r hp
      split at hes
      ·rename_i k2 es2 hr
       split at hes
       ·rename_i e1;subst e1;simp at hes;subst hes;exact .inr ⟨r,hp,hr⟩
       ·simp at hes
      ·simp at hes
     ·rename_i hp;simp at hes;exact .inl ⟨hp,hes⟩
     ·simp at hes
    split at h
    ·rename_i hkey
     rw[hk]at hvi
     obtain⟨u,h1,h2,h3⟩:=QmF (P:=P) hH hd hkk hz hv.1 hvi.1.d_inv hkey hes' ok
     split at h
     ·rename_i b hb
      simp at h
      obtain⟨rfl,rfl⟩:=h
      rw[hb]at h2 h3
      exact Qad (s:=Instr.lookup t (ρ x) (ρ i) ok) rfl h1 (.same hH h2 h3)
     ·rename_i hb
      simp at h
      obtain⟨rfl,rfl⟩:=h
      rw[hb]at h2 h3
      exact Qad (s:=Instr.lookup t (ρ x) (ρ i) ok) rfl h1 (.same hH h2 h3)
    ·simp at h
   ·simp at h
  ·simp at hc
 case mapUpdate t m k v=>
  simp only[Qaf,Option.bind_eq_bind,Option.pure_def,Option.bind_eq_some_iff]at hc
  obtain⟨m',hm,k',hk,v',hv',hc⟩:=hc
  split at hc
  ·rename_i kt e hd
   simp only[Option.bind_eq_some_iff,Option.some.injEq]at hc
   obtain⟨kk,hkk,rfl⟩:=hc
   simp only[aop]at h
   split at h
   ·rename_i r key p1 p2
    split at h
    ·rename_i k2 es hr
     split at h
     ·rename_i hcond
      obtain⟨_,rfl,hkey⟩:=hcond
      simp at h
      obtain⟨rfl,rfl⟩:=h
      have q1:=(hev m m' hm).1
      have q2:=(hev k k' hk).1
      rw[p1]at q1;rw[p2]at q2
      obtain⟨w',h1,h2⟩:=Qiq (P:=P) (cons:=cons) hH hd hkk q2.d_inv hkey hr (hev v v' hv').1
      exact Qew (s:=Instr.mapUpdate t (ρ m) (ρ k) (ρ v)) rfl (by rw[QhC q1];exact h1) h2
     ·simp at h
    ·simp at h
   ·simp at h
  ·simp at hc
 case insert t m k v=>
  simp only[Qaf,Option.bind_eq_bind,Option.pure_def,Option.bind_eq_some_iff]at hc
  obtain⟨m',hm,k',hk,v',hv',hc⟩:=hc
  split at hc
  ·rename_i kt e hd
   simp only[Option.bind_eq_some_iff,Option.some.injEq]at hc
   obtain⟨kk,hkk,rfl⟩:=hc
   simp only[aop]at h
   split at h
   ·rename_i r key p1 p2
    split at h
    ·rename_i k2 es hr
     split at h
     ·rename_i hcond
      obtain⟨_,rfl,hkey⟩:=hcond
      simp at h
      obtain⟨rfl,rfl⟩:=h
      have q1:=(hev m m' hm).1
      have q2:=(hev k k' hk).1
      rw[p1]at q1;rw[p2]at q2
      obtain⟨w',h1,h2⟩:=Qiq (P:=P) (cons:=cons) hH hd hkk q2.d_inv hkey hr (hev v v' hv').1
      exact Qew (s:=Instr.mapUpdate t (ρ m) (ρ k) (ρ v)) rfl (by rw[QhC q1];exact h1) h2
     ·simp at h
    ·simp at h
   ·simp at h
  ·simp at hc
 case range t x=>
  simp only[Qaf]at hc
  split at hc
  ·rename_i hst
   have hd:P.underlying t=some .string:=by
    unfold QfY at hst
    split at hst
    ·assumption
    ·simp at hst
   simp only[Option.map_eq_some_iff]at hc
   obtain⟨x',hx,rfl⟩:=hc
   simp only[aop]at h
   split at h
   ·rename_i s hp
    simp at h
    obtain⟨rfl,rfl⟩:=h
    have hv:=hev x x' hx
    rw[hp]at hv
    obtain⟨u,w',g',h1,h2⟩:=QmC (P:=P) (cons:=cons) hH hd hv.1
    exact Qad (s:=Instr.range t (ρ x)) rfl h1 h2
   ·simp at h
  ·simp at hc
 case next x s=>
  simp only[Qaf]at hc
  split at hc
  ·rename_i hs
   subst hs
   simp only[Option.map_eq_some_iff]at hc
   obtain⟨x',hx,rfl⟩:=hc
   simp only[aop]at h
   split at h
   ·rename_i r hp
    split at h
    ·rename_i s pos hr
     split at h
     ·have hv:=hev x x' hx
      rw[hp]at hv
      obtain⟨u,w',h1,h2⟩:=Qle (P:=P) (cons:=cons) hH hr type
      refine Qad (s:=Instr.next (ρ x) true type) rfl (v:=u) (w':=w') (g':=g) (by rw[(Qc7 hv.1).1];exact h1) ?_
      split at h
      ·rename_i hlt
       simp at h
       obtain⟨rfl,rfl⟩:=h
       rw[if_pos hlt,if_pos hlt]at h2
       exact h2
      ·rename_i hlt
       simp at h
       obtain⟨rfl,rfl⟩:=h
       rw[if_neg hlt,if_neg hlt]at h2
       exact h2
     ·simp at h
    ·simp at h
   ·simp at h
  ·simp at hc
 case extract x i=>
  simp only[Qaf,Option.map_eq_some_iff]at hc
  obtain⟨x',hx,rfl⟩:=hc
  simp only[aop]at h
  split at h
  ·rename_i vs hp
   simp only[Option.map_eq_some_iff]at h
   obtain⟨y,hy,h⟩:=h
   simp at h
   obtain⟨rfl,rfl⟩:=h
   have hv:=(hev x x' hx).1
   rw[hp]at hv
   generalize hρ:ρ x=z at hv
   cases hv with
   |tuple _ us hl h1 h2=>
    have hlt:=(List.getElem?_eq_some_iff.1 hy).1
    obtain⟨u,hu⟩:∃u,us[i]? =some u:=⟨_,Array.getElem?_eq_getElem (by omega)⟩
    exact Qad (s:=Instr.extract (ρ x) i) rfl (by rw[hρ];simp[Instr.extract,hu]) (.same hH (h1 i y u hy hu) (h2 i y u hy hu))
  ·simp at h
end ops
end Go.Abs
namespace Go.Abs
open Go.RowKit
variable [Tab]
section ops
variable {P:Program} {tk:FuncId→Nat→Bool} {g:Gh} {H:Qab} {w:World}
theorem QfH(ρ:Operand→Value)(b:Builtin)(args:Array Operand)(ts:Array TypeId)(type:TypeId):
 ∃cs,(resolve ρ { callee:= .builtin b,args:=args,argTypes:=ts } type)=pure { target:= .builtin b ts type cs,args:=args.map ρ }:=⟨_,rfl⟩
theorem Qdj(o:Oper)(ρ:Operand→Value){b:Builtin}{args:Array Operand}{ts:Array TypeId}(ho:o.op= .call { callee:= .builtin b,args:=args,argTypes:=ts }){s:Sem Value}
  (hb:∀cs,builtin b ts o.type cs (args.map ρ)=(do pure (.value (←s)))):∀ {v:Value} {w':World},s.run P w= .ok v w'→(execOp ρ o).run P w= .ok (.value v) w':=by
 intro v w' h
 obtain⟨dst,op,type,pos,after,guard⟩:=o
 simp only at ho
 subst ho
 obtain⟨cs,hr⟩:=QfH ρ b args ts type
 simp only[execOp,hr,pure_bind,invoke,hb]
 simp[h]
theorem Qds{α:Type}{a:Array α}{x y:α}(h:a.toList= [x,y]):a= #[x,y]:=by cases a;simp at h;simp[h]
theorem Qku{α:Type}{a:Array α}{x:α}(h:a.toList= [x]):a= #[x]:=by cases a;simp at h;simp[h]
theorem Qko{ρA:Opd→AV}{ρ:Operand→Value}(hev:EvT g w ρA ρ){xs:List Operand}{ys:List Opd}(h:opds xs=some ys):
  (ys.map ρA).length=(xs.map ρ).length∧∀(i:Nat) a v,(ys.map ρA)[i]? =some a→(xs.map ρ)[i]? =some v→VR g w a v:=by
 obtain⟨h1,h2⟩:=Qd1 h
 refine⟨by simp[h1],fun i a v ha hv=> ?_⟩
 simp only[List.getElem?_map,Option.map_eq_some_iff]at ha hv
 obtain⟨y,hy,rfl⟩:=ha
 obtain⟨x,hx,rfl⟩:=hv
 exact(hev x y (h2 i x y hx hy)).1
theorem Qh4{u:TypeId}{s:Nat}(h:srcT P u s=true):(∃dx,P.underlying u=some dx∧(dx= .string∨∃e2,dx= .slice e2))∧(QfY P u=true→s=1):=by
 unfold srcT at h
 split at h
 ·rename_i hu;simp at h;exact⟨⟨_,hu,.inl rfl⟩,fun _=>h⟩
 ·rename_i e hu;exact⟨⟨_,hu,.inr ⟨_,rfl⟩⟩,fun hs=>by simp[QfY,hu]at hs⟩
 ·simp at h
set_option maxHeartbeats 4000000 in
theorem Qiw{E:Qa0}{lim:Nat}{o:Oper}{c:COp}{args:Array Operand}{ts:Array TypeId}{mt:Bool}(hcc:Qb0 P mt args.toList ts.toList=some c)(hH:HeapOK g H w){ρA:Opd→AV}{ρ:Operand→Value}{cons:List Nat}
  (hev:EvOK g w cons ρA ρ){a:AV}{H':Qab}(h:aop E lim H ρA c=some (a,H'))(ho:o.op= .call { callee:= .builtin .append,args:=args,argTypes:=ts })
  (hsec:∀x y,args.toList= [x,y]→∀t,y= .tmp t→t∉cons∨True):Qfd P g w cons o ρ a H':=by
 generalize hal:args.toList=al at hcc
 generalize htl:ts.toList=tl at hcc
 unfold Qb0 at hcc
 split at hcc
 ·rename_i x y t u
  have ea:=Qds hal
  have et:=Qds htl
  subst ea;subst et
  split at hcc
  ·rename_i e he
   have hd:=QeH he
   split at hcc
   ·rename_i s b z x' y' hs hb hz hx hy
    split at hcc
    ·rename_i hcond
     simp only[Bool.and_eq_true,decide_eq_true_eq,beq_iff_eq]at hcond
     obtain⟨⟨⟨⟨hsrc,hagg⟩,hs0⟩,hall⟩,hzl⟩:=hcond
     simp only[Option.some.injEq]at hcc;subst hcc
     obtain⟨hxT,hstr⟩:=Qh4 hsrc
     split at h
     ·obtain⟨q1,q2⟩:=hev x x' hx
      obtain⟨q3,_⟩:=hev y y' hy
      obtain⟨r,w',g',r1,r2⟩:=Qlh (P:=P) (cons:=cons) (ty:=o.type) hH hd hs hb hz hall hzl hs0 hxT hstr q1 (q2.imp id (fun⟨t,_,h3,h4⟩=>⟨t,h3,h4⟩)) q3 h
      exact⟨r,w',g',.inl (Qdj o ρ ho (s:=Builtin.append_ #[t,u] o.type #[ρ x,ρ y]) (fun cs=>by simp[builtin]) r1),r2⟩
     simp only[aop]at h
     split at h
     ·rename_i xs hp
      split at h
      ·rename_i ys hys
       split at h
       ·rename_i hb2
        obtain⟨h1,h2,h3⟩:=hb2
        simp at h
        obtain⟨rfl,rfl⟩:=h
        obtain⟨q1,q2⟩:=hev x x' hx
        obtain⟨q3,_⟩:=hev y y' hy
        rw[hp]at q1 q2
        obtain⟨r,w',g',r1,r2⟩:=QmK (P:=P) (cons:=cons) (ty:=o.type) hH hd hs hb hz hall hzl hs0 hxT hstr q1 (q2.imp id (fun⟨t,_,h3,h4⟩=>⟨t,h3,h4⟩)) q3 hys h1 h2 h3
        exact⟨r,w',g',.inl (Qdj o ρ ho (s:=Builtin.append_ #[t,u] o.type #[ρ x,ρ y]) (fun cs=>by simp[builtin]) r1),r2⟩
       ·simp at h
      ·simp at h
     ·simp at h
    ·simp at hcc
   ·simp at hcc
  ·simp at hcc
 ·simp at hcc
set_option maxHeartbeats 4000000 in
theorem QhB{E:Qa0}{lim:Nat}{o:Oper}{c:COp}{b:Builtin}(hb:b≠ .append){args:Array Operand}{ts:Array TypeId}{mt:Bool}(hcc:QaM P mt b args.toList ts.toList=some c)(hH:HeapOK g H w){ρA:Opd→AV}{ρ:Operand→Value}(cons:List Nat)
  (hev:EvT g w ρA ρ){a:AV}{H':Qab}(h:aop E lim H ρA c=some (a,H'))(ho:o.op= .call { callee:= .builtin b,args:=args,argTypes:=ts }):Qfd P g w cons o ρ a H':=by
 have fin:∀ {s:Sem Value} {v:Value} {w':World} {g':Gh},(∀cs,builtin b ts o.type cs (args.map ρ)=(do pure (.value (←s))))→s.run P w= .ok v w'→OpOK g w cons g' H' w' a v→Qfd P g w cons o ρ a H':=
  fun hb hr hok=>⟨_,_,_,.inl (Qdj o ρ ho hb hr),hok⟩
 cases b<;>simp only[QaM]at hcc<;>try(simp at hcc;done)
 case append=>exact absurd rfl hb
 case copy=>
  generalize hal:args.toList=al at hcc
  generalize htl:ts.toList=tl at hcc
  unfold QdL at hcc
  split at hcc
  ·rename_i x y t u
   have ea:=Qds hal
   have et:=Qds htl
   subst ea;subst et
   split at hcc
   ·rename_i e he
    have hd:=QeH he
    split at hcc
    ·rename_i s x' y' hs hx hy
     split at hcc
     ·rename_i hcond
      simp only[Bool.and_eq_true,decide_eq_true_eq,beq_iff_eq]at hcond
      obtain⟨⟨hs0,hagg⟩,hsrc⟩:=hcond
      simp at hcc;subst hcc
      obtain⟨hxT,hstr⟩:=Qh4 hsrc
      simp only[aop]at h
      split at h
      ·rename_i r off len cap z hp
       split at h
       ·rename_i ys cs hys hr
        split at h
        ·rename_i hcond
         obtain⟨_,rfl,hle,hhd⟩:=hcond
         simp only[Option.some.injEq,Prod.mk.injEq]at h
         obtain⟨rfl,rfl⟩:=h
         have q1:=(hev x x' hx).1
         have q2:=(hev y y' hy).1
         rw[hp]at q1
         obtain⟨w',g',h1,h2⟩:=op_copy (P:=P) (cons:=cons) (ty:=o.type) (sT:=u) hH hd hs hs0 hstr q1 q2 hys hr hle hhd
         exact fin (s:=Builtin.copy_ #[t,u] o.type #[ρ x,ρ y]) (fun cs=>by simp[builtin]) h1 h2
        ·simp at h
       ·simp at h
      ·simp at h
     ·simp at hcc
    ·simp at hcc
   ·simp at hcc
  ·simp at hcc
 case delete=>
  generalize hal:args.toList=al at hcc
  generalize htl:ts.toList=tl at hcc
  unfold QcT at hcc
  split at hcc
  ·rename_i m k t u
   have ea:=Qds hal
   have et:=Qds htl
   subst ea;subst et
   split at hcc
   ·rename_i kt e hd
    split at hcc
    ·rename_i kk m' k' hkk hm hk
     simp at hcc;subst hcc
     simp only[aop]at h
     split at h
     ·rename_i r key p1 p2
      split at h
      ·rename_i k2 es hr
       split at h
       ·rename_i hcond
        obtain⟨_,rfl,hkey⟩:=hcond
        simp at h
        obtain⟨rfl,rfl⟩:=h
        have q1:=(hev m m' hm).1
        have q2:=(hev k k' hk).1
        rw[p1]at q1;rw[p2]at q2
        obtain⟨w',h1,h2⟩:=QmJ (P:=P) (cons:=cons) hH hd hkk q2.d_inv hkey hr u o.type
        exact fin (s:=Builtin.delete_ #[t,u] o.type #[ρ m,ρ k]) (fun cs=>by simp[builtin]) (by rw[QhC q1];exact h1) h2
       ·simp at h
      ·simp at h
     ·rename_i key p1 p2
      split at h
      ·rename_i hkey
       simp at h
       obtain⟨rfl,rfl⟩:=h
       have q1:=(hev m m' hm).1
       rw[p1]at q1
       exact fin (s:=Builtin.delete_ #[t,u] o.type #[ρ m,ρ k]) (fun cs=>by simp[builtin]) (by rw[QgX q1];exact Qhx hd hkk _ _ _) (.same hH (.tuple [] #[] rfl (fun i c v h=>by simp at h) (fun i c v h=>by simp at h)) (fun xs e=>by cases e))
      ·simp at h
     ·simp at h
    ·simp at hcc
   ·simp at hcc
  ·simp at hcc
 case len=>
  generalize hal:args.toList=al at hcc
  generalize htl:ts.toList=tl at hcc
  unfold QeK at hcc
  split at hcc
  ·rename_i x t
   have ea:=Qku hal
   have et:=Qku htl
   subst ea;subst et
   have key:∀ {n:Int} {H2:Qab},(Builtin.len_ #[t] o.type #[ρ x]).run P w= .ok (.int .i64 n) w→H2=H→a=intD n→H'=H2→Qfd P g w cons o ρ a H':=by
    intro n H2 hr e1 e2 e3
    subst e1 e2 e3
    exact fin (s:=Builtin.len_ #[t] o.type #[ρ x]) (fun cs=>by simp[builtin]) hr (.same hH (.d _ _ (.int _ _)) (Triv.d _ _))
   split at hcc
   ·rename_i hu
    simp only[Option.map_eq_some_iff]at hcc
    obtain⟨x',hx,rfl⟩:=hcc
    have hv:=(hev x x' hx).1
    simp only[aop]at h
    split at h
    all_goals(first|(rename_i hk _;cases hk;done)|(rename_i hk;cases hk;done)|skip)
    ·rename_i s hp
     simp at h
     obtain⟨rfl,rfl⟩:=h
     rw[hp]at hv
     obtain⟨s',e,rfl⟩:=QdF hv
     exact key (n:=(s'.data.toList.length:Int)) (by rw[e];simp[Builtin.len_,run_underlying hu,goInt]) rfl rfl rfl
    all_goals simp at h
   ·rename_i e hu
    simp only[Option.map_eq_some_iff]at hcc
    obtain⟨x',hx,rfl⟩:=hcc
    have hv:=(hev x x' hx).1
    simp only[aop]at h
    split at h
    all_goals(first|(rename_i hk _;cases hk;done)|(rename_i hk;cases hk;done)|skip)
    ·rename_i r off n cap sz _ hp
     simp at h
     obtain⟨rfl,rfl⟩:=h
     rw[hp]at hv
     obtain⟨_,ev,_⟩:=Qmv hv
     exact key (n:=(n:Int)) (by rw[ev];simp[Builtin.len_,run_underlying hu,goInt]) rfl rfl rfl
    ·simp only[Option.map_eq_some_iff]at h
     obtain⟨xs,he,h⟩:=h
     simp at h
     obtain⟨rfl,rfl⟩:=h
     have hdr:=QcE hv he
     have hs:∃p c,ρ x= .slice p xs.length c:=by
      generalize ρ x=q at hdr
      cases hdr with
      |slnil=>exact⟨none,0,rfl⟩
      |sle a cap=>exact⟨_,_,rfl⟩
      |slice _ b off len cap sz vs hlen=>subst hlen;exact⟨_,_,rfl⟩
     obtain⟨p,cp,hs⟩:=hs
     exact key (n:=(xs.length:Int)) (by rw[hs];simp[Builtin.len_,run_underlying hu,goInt]) rfl rfl rfl
    all_goals simp at h
   ·rename_i k e hu
    simp only[Option.map_eq_some_iff]at hcc
    obtain⟨x',hx,rfl⟩:=hcc
    have hv:=(hev x x' hx).1
    simp only[aop]at h
    split at h
    all_goals(first|(rename_i hk _;cases hk;done)|(rename_i hk;cases hk;done)|skip)
    ·rename_i hp
     simp at h
     obtain⟨rfl,rfl⟩:=h
     rw[hp]at hv
     exact key (n:=0) (by rw[QgX hv];simp[Builtin.len_,run_underlying hu,goInt]) rfl rfl rfl
    ·rename_i r hp
     rw[hp]at hv
     split at h
     ·rename_i kk es hr
      simp at h
      obtain⟨rfl,rfl⟩:=h
      exact key (n:=(es.length:Int)) (by rw[QhC hv];exact Qlf hH hu hr _) rfl rfl rfl
     ·simp at h
    ·simp at h
   ·simp at hcc
  ·simp at hcc
 case min=>
  simp only[Option.map_eq_some_iff]at hcc
  obtain⟨xs,hx,rfl⟩:=hcc
  simp only[aop,Option.map_eq_some_iff]at h
  obtain⟨d,hd,h⟩:=h
  simp at h
  obtain⟨rfl,rfl⟩:=h
  obtain⟨q1,q2⟩:=Qko hev hx
  obtain⟨v,rest,e,u,h1,h2⟩:=QmI (P:=P) (op:=Builtin.min2) (fun k x j y=>by simp[Builtin.min2]) q1 q2 hd
  refine fin (s:=Builtin.min_ ts o.type (args.map ρ)) (fun cs=>by simp[builtin]) ?_ (.same hH h2 (Triv.d _ _))
  unfold Builtin.min_
  rw[Array.toList_map,e]
  exact h1
 case max=>
  simp only[Option.map_eq_some_iff]at hcc
  obtain⟨xs,hx,rfl⟩:=hcc
  simp only[aop,Option.map_eq_some_iff]at h
  obtain⟨d,hd,h⟩:=h
  simp at h
  obtain⟨rfl,rfl⟩:=h
  obtain⟨q1,q2⟩:=Qko hev hx
  obtain⟨v,rest,e,u,h1,h2⟩:=QmI (P:=P) (op:=Builtin.max2) (fun k x j y=>by simp[Builtin.max2]) q1 q2 hd
  refine fin (s:=Builtin.max_ ts o.type (args.map ρ)) (fun cs=>by simp[builtin]) ?_ (.same hH h2 (Triv.d _ _))
  unfold Builtin.max_
  rw[Array.toList_map,e]
  exact h1
end ops
end Go.Abs
namespace Go.Abs
open Go.RowKit
variable [Tab]
def QhU(P:Program)(f:FuncId):Prop:=∃fn,P.funcs[f]? =some fn∧fn.body.isSome=true∧(fn.name== "runtime.NumGoroutine")=false
def Ext(lim:Nat)(H H':Qab):Prop:=H.length≤H'.length∧H'.take lim=H.take lim
def FSoundC(P:Program)(f:FuncId)(F:Qba):Prop:=
 ∀lim args H a H',F lim args H=some (a,H')→lim≤H.length→QhU P f∧Ext lim H H'∧
  ∀(vals:Array Value) (g:Gh) (w:World),HeapOK g H w→(∀b,g.own b≠ .res)→args.length=vals.size→
   (∀(i:Nat) x v,args[i]? =some x→vals[i]? =some v→VR g w x v∧FOK g w (.slot i) x v)→
   Calls P f vals w fun e w'=>∃v g',e= .returned v∧WF g w g' w'∧HeapOK g' H' w'∧VR g' w' a v∧FOK g' w' .res a v
def FSound(P:Program)(f:FuncId)(F:Qba):Prop:=
 ∀lim args H a H',F lim args H=some (a,H')→lim≤H.length→Ext lim H H'∧
  ∀(vals:Array Value) (g:Gh) (w:World),HeapOK g H w→(∀b,g.own b≠ .res)→args.length=vals.size→
   (∀(i:Nat) x v,args[i]? =some x→vals[i]? =some v→VR g w x v∧FOK g w (.slot i) x v)→
   (QhU P f∧Calls P f vals w fun e w'=>∃v g',e= .returned v∧WF g w g' w'∧HeapOK g' H' w'∧VR g' w' a v∧FOK g' w' .res a v)∨
   ∃v g' w',(callFunc f vals).run P w= .ok (.value v) w'∧WF g w g' w'∧HeapOK g' H' w'∧VR g' w' a v∧FOK g' w' .res a v
theorem FSoundC.plain{P:Program}{f:FuncId}{F:Qba}(h:FSoundC P f F):FSound P f F:=fun lim args H a H' h1 h2=>by
 obtain⟨q1,q2,q3⟩:=h lim args H a H' h1 h2
 exact⟨q2,fun vals g w k1 k2 k3 k4=> .inl ⟨q1,q3 vals g w k1 k2 k3 k4⟩⟩
def Qcn(P:Program)(E:Qa0):Prop:=∀f,FSound P f (E f)
class Dfr where
 ds:List Deferred
instance noDfr:Dfr:=⟨[]⟩
variable [Dfr]
structure Inv (g:Gh) (st:St) (a:Act) (w:World):Prop where
 heap:HeapOK g st.H w
 size:st.T.length=a.tmps.size
 tok:∀(i:Nat) x v,st.T[i]? =some x→a.tmps[i]? =some v→VR g w x v∧FOK g w (.slot i) x v
 nores:∀b,g.own b≠ .res
 defers:a.defers=Dfr.ds
section
variable {P:Program} {g:Gh} {w:World} {st:St} {a:Act}
theorem Qby(h:Inv g st a w)(n:Nat):VR g w (st.T.getD n .undef) (a.tmps.getD n undef)∧FOK g w (.slot n) (st.T.getD n .undef) (a.tmps.getD n undef):=by
 by_cases hn:n<st.T.length
 ·have h1:st.T[n]? =some st.T[n]:=List.getElem?_eq_getElem hn
  have hn':n<a.tmps.size:=by rw[←h.size];exact hn
  have h2:a.tmps[n]? =some a.tmps[n]:=Array.getElem?_eq_getElem hn'
  have:=h.tok n _ _ h1 h2
  have e1:st.T.getD n .undef=st.T[n]:=by simp[List.getD,h1]
  have e2:a.tmps.getD n undef=a.tmps[n]:=by simp[Array.getD,hn']
  rw[e1,e2];exact this
 ·have e1:st.T.getD n .undef= .undef:=by simp[List.getD,List.getElem?_eq_none (Nat.le_of_not_lt hn)]
  rw[e1]
  exact⟨.undef _,FOK.ne (by simp)⟩
theorem QjK(h:Inv g st a w)(cons:List Nat):EvOK g w cons (evx st.T cons) a.eval:=by
 intro x y hxy
 cases x with
 |tmp t=>
  simp[opd]at hxy;subst hxy
  obtain⟨h1,h2⟩:=Qby h t
  simp only[evx,Act.eval]
  split
  ·rename_i hc
   exact⟨h1,.inr ⟨t,rfl,by simpa using hc,h2⟩⟩
  ·exact⟨h1.unf,.inl (Triv.unf _ _)⟩
 |const v=>
  simp[opd]at hxy;subst hxy
  exact⟨(Qbt g w v).1,.inl (Qbt g w v).2⟩
 |global n=>
  simp only[opd,Option.map_eq_some_iff]at hxy
  obtain⟨cs,h1,rfl⟩:=hxy
  exact⟨h.heap.glob n cs h1,.inl (fun xs e=>by cases e)⟩
 |func f=>
  simp[opd]at hxy;subst hxy
  exact⟨.func _ _ _ rfl (fun i c v h=>by simp at h) (fun i c v h=>by simp at h),.inl (fun xs e=>by cases e)⟩
def Gh.settle(g:Gh)(cons:List Nat)(dst:Option Nat):Gh:=
 { g with own:=fun b=>match g.own b with
     |.res=>match dst with|some d=> .slot d|none=> .mine
     |.slot t=>if t∈cons∨dst=some t then .mine else .slot t
     |o=>o }
theorem QbL{g:Gh}{cons:List Nat}{dst:Option Nat}{b:Nat}(h:∀i,g.own b≠ .slot i)(h2:g.own b≠ .res):(g.settle cons dst).own b=g.own b:=by
 show(match g.own b with
  |.res=>match dst with|some d=>Own.slot d|none=> .mine
  |.slot t=>if t∈cons∨dst=some t then .mine else .slot t
  |o=>o)=g.own b
 cases e:g.own b with
 |res=>exact absurd e h2
 |slot t=>exact absurd e (h t)
 |_=>rfl
theorem QcZ(g:Gh)(w:World)(cons:List Nat)(dst:Option Nat):WF g w (g.settle cons dst) w where
 os:=rfl
 tape:=rfl
 output:=rfl
 size:=Nat.le_refl _
 idle x _ ho:=⟨rfl,QbL (fun i=>by rcases ho with h|h<;>rw[h]<;>simp) (by rcases ho with h|h<;>rw[h]<;>simp),rfl⟩
 stays b i hi:=⟨hi,rfl⟩
 n:=Nat.le_refl _
 rho _ _:=rfl
 out b hb:=by
  simp only[Gh.settle]at hb
  split at hb
  ·split at hb<;>cases hb
  ·split at hb<;>cases hb
  ·exact hb
 mine b hb:=by rw[QbL (fun i=>by rw[hb];simp) (by rw[hb];simp)];exact hb
theorem QjF{H:Qab}(h:HeapOK g H w)(cons:List Nat)(dst:Option Nat):HeapOK (g.settle cons dst) H w where
 n:=h.n
 own r hr ha:=by
  obtain⟨h1,h2⟩:=h.own r hr ha
  exact⟨by have:=QbL (g:=g) (cons:=cons) (dst:=dst) (b:=g.rho r) (fun i=>by rw[h1];simp) (by rw[h1];simp);exact this.trans h1,h2⟩
 obj r o ho:=by
  have hr:r<g.n:=by rw[h.n];exact(List.getElem?_eq_some_iff.1 ho).1
  refine(h.obj r o ho).keep (QcZ g w cons dst) hr (fun _=>rfl) (fun j a v hf=>hf.keep fun b hb=>⟨?_,rfl,fun cs e fr hh hz=>⟨cs,fr,hh,rfl,hz⟩⟩)
  exact(QbL (fun i=>by rw[hb];simp) (by rw[hb];simp)).trans hb
 new b hb:=by
  obtain⟨h1,h2⟩:=h.new b hb
  exact⟨(QbL (fun i=>by rw[h1];simp) (by rw[h1];simp)).trans h1,h2⟩
 glob n cs hn:=(QcZ g w cons dst).vr (h.glob n cs hn)
theorem Qcw:∀(cons:List Nat) (T:List AV) (i:Nat),(unflag T cons)[i]? =if i∈cons then(T[i]?).map AV.unf else T[i]? :=by
 intro cons
 induction cons with
 |nil=>intro T i;simp[unflag]
 |cons n ns ih=>
  intro T i
  simp only[unflag]
  rw[ih]
  by_cases hi:i=n
  ·subst hi
   by_cases hlt:i<T.length
   ·have e1:T[i]? =some T[i]:=List.getElem?_eq_getElem hlt
    have e2:(T.set i ((T.getD i .undef).unf))[i]? =some ((T.getD i .undef).unf):=List.getElem?_set_self hlt
    simp only[List.mem_cons,true_or,if_true,e2,e1,Option.map_some]
    have e3:T.getD i .undef=T[i]:=by simp[List.getD,e1]
    rw[e3]
    split
    ·have:(T[i].unf).unf=T[i].unf:=by cases T[i]<;>rfl
     rw[this]
    ·rfl
   ·have e1:T[i]? =none:=List.getElem?_eq_none (Nat.le_of_not_lt hlt)
    have e2:(T.set i ((T.getD i .undef).unf))[i]? =none:=List.getElem?_eq_none (by rw[List.length_set];exact Nat.le_of_not_lt hlt)
    rw[e2,e1]
    simp
  ·rw[List.getElem?_set_ne (Ne.symm hi)]
   simp[hi]
theorem Qbv(cons:List Nat):∀T:List AV,(unflag T cons).length=T.length:=by
 induction cons with
 |nil=>intro T;rfl
 |cons n ns ih=>intro T;simp only[unflag];rw[ih];simp
theorem QiF{cons:List Nat}{g':Gh}{H':Qab}{w':World}{x:AV}{v:Value}(h:Inv g st a w)(hop:OpOK g w cons g' H' w' x v)(dst:Option Nat):
  Inv (g'.settle cons dst) ⟨put (unflag st.T cons) dst x,H'⟩ (a.put dst v) w':=by
 have hs:=QcZ g' w' cons dst
 refine⟨QjF hop.heap cons dst, ?_, ?_,fun b hb=> ?_, ?_⟩
 ·cases dst with
  |none=>simp[put,Act.put,Qbv,h.size]
  |some d=>simp[put,Act.put,Qbv,h.size]
 ·intro i y u hy hu
  by_cases hd:dst=some i
  ·subst hd
   simp only[put,Act.put]at hy hu
   have hlt:i<(unflag st.T cons).length:=by have:=(List.getElem?_eq_some_iff.1 hy).1;simpa using this
   rw[List.getElem?_set_self hlt]at hy
   have hlt':i<a.tmps.size:=by rw[←h.size,←Qbv cons];exact hlt
   rw[Array.getElem?_setIfInBounds_self_of_lt hlt']at hu
   simp at hy hu;subst hy hu
   refine⟨hs.vr hop.vr,fun xs e=> ?_⟩
   rcases hop.fok xs e with h1|⟨b,off,cap,sz,q1,q2,q3,q4,q5,q6⟩
   ·exact .inl h1
   ·exact .inr ⟨b,off,cap,sz,q1,q2,q3,by simp[Gh.settle,q4],q5,q6⟩
  ·have hy':(unflag st.T cons)[i]? =some y:=by
    cases dst with
    |none=>exact hy
    |some d=>simp only[put]at hy;rwa [List.getElem?_set_ne (by intro e;subst e;exact hd rfl)]at hy
   have hu':a.tmps[i]? =some u:=by
    cases dst with
    |none=>exact hu
    |some d=>simp only[Act.put]at hu;rwa [Array.getElem?_setIfInBounds_ne (by intro e;subst e;exact hd rfl)]at hu
   rw[Qcw]at hy'
   split at hy'
   ·simp only[Option.map_eq_some_iff]at hy'
    obtain⟨z,hz,rfl⟩:=hy'
    exact⟨hs.vr (hop.wf.vr (h.tok i z u hz hu').1.unf),FOK.unf _ _ _ _ _⟩
   ·rename_i hic
    obtain⟨h1,h2⟩:=h.tok i y u hy' hu'
    refine⟨hs.vr (hop.wf.vr h1),(hop.keep i y u hic h2).keep fun b hb=>⟨?_,rfl,fun cs e fr hh hz=>⟨cs,fr,hh,rfl,hz⟩⟩⟩
    simp only[Gh.settle,hb]
    rw[if_neg]
    rintro(h3|h3)
    ·exact hic h3
    ·exact hd h3
 ·simp only[Gh.settle]at hb
  split at hb
  ·split at hb<;>cases hb
  ·split at hb<;>cases hb
  ·rename_i _ q _;exact q hb
 ·cases dst with
  |none=>exact h.defers
  |some d=>exact h.defers
end
end Go.Abs
namespace Go.Abs
open Go.RowKit
variable [Tab]
theorem Ext.refl(lim:Nat)(H:Qab):Ext lim H H:=⟨Nat.le_refl _,rfl⟩
theorem Ext.trans{lim:Nat}{H H' H'':Qab}(h:Ext lim H H')(k:Ext lim H' H''):Ext lim H H'':=⟨Nat.le_trans h.1 k.1,k.2.trans h.2⟩
theorem Ext.app{lim:Nat}{H:Qab}(o:AObj)(h:lim≤H.length):Ext lim H (H++ [o]):=⟨by simp,List.take_append_of_le_length h⟩
theorem Ext.set{lim:Nat}{H:Qab}(o:AObj){r:Nat}(h:lim≤r):Ext lim H (H.set r o):=by
 refine⟨by simp, ?_⟩
 rw[List.take_set]
 exact List.set_eq_of_length_le (by simp;omega)
set_option maxHeartbeats 4000000 in
theorem QnA{P:Program}{E:Qa0}(hE:Qcn P E){lim:Nat}{H H':Qab}{ρ:Opd→AV}{o:COp}{a:AV}(hlim:lim≤H.length)(h:aop E lim H ρ o=some (a,H')):Ext lim H H':=by
 cases o with
 |call f args=>exact(hE f lim _ H a H' h hlim).1
 |callV f args=>
  simp only[aop]at h
  split at h
  ·exact(hE _ lim _ H a H' h hlim).1
  ·simp at h
 |_=>
  simp only[aop]at h
  repeat' split at h
  all_goals first
   |(simp at h;done)
   |(simp only[Option.some.injEq,Prod.mk.injEq]at h;obtain⟨-,rfl⟩:=h;first|exact Ext.refl _ _|exact Ext.app _ hlim|exact Ext.set _ (by first|assumption|omega)|exact(Ext.set _ (by first|assumption|omega)).trans (Ext.app _ (by rw[List.length_set];exact hlim)))
   |(simp only[Option.map_eq_some_iff,Prod.mk.injEq]at h;obtain⟨_,-,-,rfl⟩:=h;exact Ext.refl _ _)
theorem OR.swap{g g':Gh}{w:World}{r:Nat}{o:AObj}(hbd:g'.bd=g.bd)(hrho:g'.rho=g.rho)(hn:g'.n=g.n)(hq:g'.rm=g.rm)(hm:∀b,g.own b= .mine→g'.own b= .mine)
  (hc:∀b j,g.own b= .cell r j→g'.own b= .cell r j)(h:OR g w r o):OR g' w r o:=by
 have vr:∀ {a v},VR g w a v→VR g' w a v:=fun h=>h.mono (fun b i hi=>⟨by rw[hbd];exact hi,rfl⟩) (by rw[hn];exact Nat.le_refl _) (fun r _=>by rw[hrho]) hm (fun r _=>by rw[hq])
 cases o with
 |cells cs=>
  obtain⟨vs,e,fr,h1,h2,h3,h4,h5⟩:=h
  refine⟨vs,e,fr,by rw[hrho];exact h1,by rw[hq];exact h2,h3,h4,fun j c v hj hv=>⟨vr (h5 j c v hj hv).1,(h5 j c v hj hv).2.keep fun b hb=>⟨hc b j hb,by rw[hbd],fun cs e fr hh hz=>⟨cs,fr,hh,rfl,hz⟩⟩⟩⟩
 |map kk es=>
  obtain⟨ms,clk,h1,h2,h3⟩:=h
  refine⟨ms,clk,by rw[hrho];exact h1,h2,fun i k a m hi hm'=> ?_⟩
  obtain⟨q1,q2,q3,q4⟩:=h3 i k a m hi hm'
  exact⟨by rw[hbd];exact q1,q2,vr q3,q4⟩
 |siter s pos=>
  obtain⟨s',h1,h2⟩:=h
  exact⟨s',by rw[hrho];exact h1,h2⟩
 |dead=>trivial
def Gh.hide(g:Gh)(tk:Option Nat):Gh:= { g with own:=fun b=>match g.own b with|.slot i=>if tk=some i then .slot 0 else .out|o=>o }
def Gh.back(g:Gh)(tk:Option Nat)(g':Gh):Gh:= { g' with own:=fun b=>match g.own b with|.slot i=>if tk=some i then g'.own b else .slot i|_=>g'.own b }
theorem Qf2{g:Gh}{tk:Option Nat}{b i:Nat}(h:g.own b= .slot i)(ht:tk≠some i):(g.hide tk).own b= .out:=by simp[Gh.hide,h,ht]
theorem QjE{g:Gh}{t b:Nat}(h:g.own b= .slot t):(g.hide (some t)).own b= .slot 0:=by simp[Gh.hide,h]
theorem Qa6{g:Gh}{tk:Option Nat}{b:Nat}(h:∀i,g.own b≠ .slot i):(g.hide tk).own b=g.own b:=by
 show(match g.own b with|.slot i=>if tk=some i then Own.slot 0 else .out|o=>o)=g.own b
 cases e:g.own b with
 |slot i=>exact absurd e (h i)
 |_=>rfl
theorem QiY{g g':Gh}{tk:Option Nat}{b i:Nat}(h:g.own b= .slot i)(ht:tk≠some i):(g.back tk g').own b= .slot i:=by simp[Gh.back,h,ht]
theorem Qnw{g g':Gh}{t b:Nat}(h:g.own b= .slot t):(g.back (some t) g').own b=g'.own b:=by simp[Gh.back,h]
theorem Qdz{g g':Gh}{tk:Option Nat}{b:Nat}(h:∀i,g.own b≠ .slot i):(g.back tk g').own b=g'.own b:=by
 show(match g.own b with|.slot i=>if tk=some i then g'.own b else Own.slot i|_=>g'.own b)=g'.own b
 cases e:g.own b with
 |slot i=>exact absurd e (h i)
 |_=>rfl
section
variable {P:Program} {g:Gh} {H:Qab} {w:World} {tk:Option Nat}
theorem QjD{x:AV}{v:Value}(h:VR g w x v):VR (g.hide tk) w x v:=
 VR.mono (g:=g) (g':=g.hide tk) (h:=h) (fun b i hi=>⟨hi,rfl⟩) (Nat.le_refl _) (fun _ _=>rfl) (fun b hb=>(Qa6 (fun i=>by rw[hb];simp)).trans hb) (fun _ _=>rfl)
theorem QiG(h:HeapOK g H w):HeapOK (g.hide tk) H w where
 n:=h.n
 own r hr ha:=⟨by
  obtain⟨h1,_⟩:=h.own r hr ha
  exact(Qa6 (b:=g.rho r) (fun i=>by rw[h1];simp)).trans h1,(h.own r hr ha).2⟩
 obj r o ho:=OR.swap (g:=g) (g':=g.hide tk) (h:=h.obj r o ho) rfl rfl rfl rfl (fun b hb=>(Qa6 (fun i=>by rw[hb];simp)).trans hb) (fun b j hb=>(Qa6 (fun i=>by rw[hb];simp)).trans hb)
 new b hb:=⟨by obtain⟨h1,_⟩:=h.new b hb;exact(Qa6 (fun i=>by rw[h1];simp)).trans h1,(h.new b hb).2⟩
 glob n cs hn:=QjD (h.glob n cs hn)
theorem Qg1(hn:∀b,g.own b≠ .res)(b:Nat):(g.hide tk).own b≠ .res:=by
 by_cases h:∃i,g.own b= .slot i
 ·obtain⟨i,hi⟩:=h
  by_cases ht:tk=some i
  ·subst ht;rw[QjE hi];simp
  ·rw[Qf2 hi ht];simp
 ·have h':∀i,g.own b≠ .slot i:=fun i hi=>h ⟨i,hi⟩
  rw[Qa6 h']
  exact hn b
theorem QjS{cons:List Nat}(htk:∀t,tk=some t→t∈cons)(hH:HeapOK g H w){g1:Gh}{H':Qab}{w':World}{a:AV}{v:Value}(hw:WF (g.hide tk) w g1 w')(hh:HeapOK g1 H' w')(hv:VR g1 w' a v)(hf:FOK g1 w' .res a v):
  OpOK g w cons (g.back tk g1) H' w' a v:=by
 have old:∀b i,g.own b= .slot i→tk≠some i→b<w.heap.size∧w'.heap[b]? =w.heap[b]? ∧g1.own b= .out∧g1.bd b=g.bd b:=by
  intro b i hb ht
  have hlt:=hH.own_lt (b:=b) (by rw[hb];simp)
  obtain⟨h1,h2,h3⟩:=hw.idle b hlt (.inr (Qf2 hb ht))
  exact⟨hlt,h1,h2.trans (Qf2 hb ht),h3⟩
 have bo:∀b,g1.own b≠ .out→(g.back tk g1).own b=g1.own b:=fun b hb=>by
  by_cases h:∃i,g.own b= .slot i
  ·obtain⟨i,hi⟩:=h
   by_cases ht:tk=some i
   ·subst ht;exact Qnw hi
   ·exact absurd (old b i hi ht).2.2.1 hb
  ·exact Qdz fun i hi=>h ⟨i,hi⟩
 have vr:∀ {a v},VR g1 w' a v→VR (g.back tk g1) w' a v:=fun h=>VR.mono (g:=g1) (g':=g.back tk g1) (h:=h) (fun b i hi=>⟨hi,rfl⟩) (Nat.le_refl _) (fun r _=>rfl) (fun b hb=>(bo b (by rw[hb];simp)).trans hb) (fun _ _=>rfl)
 refine⟨⟨hw.os,hw.tape,hw.output,hw.size,fun b hb ho=> ?_,hw.stays,hw.n,hw.rho,fun b hb=> ?_,fun b hb=> ?_,hw.rm⟩,⟨hh.n,fun r hr hra=> ?_,fun r o ho=> ?_,fun b hb=> ?_,fun n cs hn=>vr (hh.glob n cs hn)⟩,vr hv, ?_,fun i x u hic hfu=> ?_⟩
 ·have h':∀i,g.own b≠ .slot i:=fun i=>by rcases ho with h|h<;>rw[h]<;>simp
  obtain⟨h1,h2,h3⟩:=hw.idle b hb (by rw[Qa6 h'];exact ho)
  exact⟨h1,by rw[Qdz h',h2,Qa6 h'],h3⟩
 ·by_cases h:∃i,g.own b= .slot i
  ·obtain⟨i,hi⟩:=h
   by_cases ht:tk=some i
   ·subst ht
    rw[Qnw hi]at hb
    have:=hw.out b hb
    rw[QjE hi]at this;cases this
   ·rw[QiY hi ht]at hb;cases hb
  ·have h':∀i,g.own b≠ .slot i:=fun i hi=>h ⟨i,hi⟩
   rw[Qdz h']at hb
   have:=hw.out b hb
   rwa [Qa6 h']at this
 ·have h':∀i,g.own b≠ .slot i:=fun i=>by rw[hb];simp
  rw[Qdz h']
  exact hw.mine b (by rw[Qa6 h'];exact hb)
 ·obtain⟨h1,h2⟩:=hh.own r hr hra
  exact⟨(bo _ (by rw[show g1.own ((g.back tk g1).rho r)=_ from h1];simp)).trans h1,h2⟩
 ·exact OR.swap (g:=g1) (g':=g.back tk g1) (h:=hh.obj r o ho) rfl rfl rfl rfl (fun b hb=>(bo b (by rw[hb];simp)).trans hb) (fun b j hb=>(bo b (by rw[hb];simp)).trans hb)
 ·obtain⟨h1,h2⟩:=hh.new b hb
  exact⟨(bo b (by rw[h1];simp)).trans h1,h2⟩
 ·exact FOK.keep (g:=g1) (g':=g.back tk g1) (h:=hf) fun b hb=>⟨(bo b (by rw[hb];simp)).trans hb,rfl,fun cs e fr hh hz=>⟨cs,fr,hh,rfl,hz⟩⟩
 ·have ht:tk≠some i:=fun e=>hic (htk i e)
  exact FOK.keep (g:=g) (g':=g.back tk g1) (h:=hfu) fun b hb=>by
   obtain⟨h1,h2,h3,h4⟩:=old b i hb ht
   exact⟨QiY hb ht,h4,fun cs e fr hh hz=>⟨cs,fr,by rw[h2];exact hh,rfl,hz⟩⟩
theorem Qg8{f:FuncId}{F:Qba}(hF:FSound P f F)(hH:HeapOK g H w)(hn:∀b,g.own b≠ .res){lim:Nat}(hlim:lim≤H.length){args:List AV}{H':Qab}{a:AV}(h:F lim args H=some (a,H'))
  {vals:Array Value}(hl:args.length=vals.size){cons:List Nat}(htk:∀t,tk=some t→t∈cons)(hv:∀(i:Nat) x v,args[i]? =some x→vals[i]? =some v→VR g w x v∧(Triv x v∨∃t,tk=some t∧i=0∧FOK g w (.slot t) x v)):
  ((callFunc f vals).run P w= .ok (.enter f vals) w∧Calls P f vals w fun e w'=>∃v g',e= .returned v∧OpOK g w cons g' H' w' a v)∨
  ∃v g' w',(callFunc f vals).run P w= .ok (.value v) w'∧OpOK g w cons g' H' w' a v:=by
 obtain⟨-,hc0⟩:=hF lim args H a H' h hlim
 rcases hc0 vals (g.hide tk) w (QiG hH) (Qg1 hn) hl (fun i x v hx hv'=>by
  obtain⟨h1,h2⟩:=hv i x v hx hv'
  refine⟨QjD h1, ?_⟩
  rcases h2 with h2|⟨t,rfl,rfl,h2⟩
  ·exact FOK.triv h2
  ·intro xs e
   rcases h2 xs e with h3|⟨b,off,cap,sz,q1,q2,q3,q4,q5,q6⟩
   ·exact .inl h3
   ·exact .inr ⟨b,off,cap,sz,q1,q2,q3,QjE q4,q5,q6⟩)with⟨⟨fn,hf,hb,hname⟩,hc⟩|⟨v,g1,w',hr,q1,q2,q3,q4⟩
 rotate_left
 ·exact .inr ⟨v,_,w',hr,QjS htk hH q1 q2 q3 q4⟩
 left
 constructor
 ·have:fn.body.isNone=false:=by cases e:fn.body<;>simp_all
  simp only[callFunc,Sem.run_bind,run_program,Result.andThen_ok,hf,hname,this]
  rfl
 ·refine Calls.mono hc ?_
  rintro e w' ⟨v,g1,he,q1,q2,q3,q4⟩
  exact⟨v,_,he,QjS htk hH q1 q2 q3 q4⟩
end
end Go.Abs
namespace Go.Abs
open Go.RowKit
variable [Tab] [Dfr]
section
variable {P:Program} {E:Qa0} {tk:FuncId→Nat→Bool} {g:Gh} {w:World} {st:St} {a:Act} {K:Act→World→Prop} {Q:Exit→Act→World→Prop} {o:Oper} {cons:List Nat} {H':Qab} {x:AV}
theorem Qav(h:Qfd P g w cons o a.eval x H')(hK:∀g' v w',OpOK g w cons g' H' w' x v→K (a.put o.dst v) w'):o.wp P a w K Q:=by
 obtain⟨v,w',g',hd,hok⟩:=h
 have:=hK g' v w' hok
 rcases hd with hd|⟨hd,rfl⟩
 ·simp only[Oper.wp,hd,Oper.upon];exact this
 ·simp only[Oper.wp,hd,Oper.upon];exact this
theorem Qnq{f:FuncId}{vals:Array Value}(he:(execOp a.eval o).run P w= .ok (.enter f vals) w)
  (hc:Calls P f vals w fun e w'=>∃v g',e= .returned v∧OpOK g w cons g' H' w' x v)(hK:∀g' v w',OpOK g w cons g' H' w' x v→K (a.put o.dst v) w'):o.wp P a w K Q:=by
 simp only[Oper.wp,he,Oper.upon]
 refine Calls.mono hc ?_
 rintro e w' ⟨v,g',rfl,hok⟩
 exact hK g' v w' hok
theorem Qj2{v:Value}{w':World}{g':Gh}(he:(execOp a.eval o).run P w= .ok (.value v) w')(hok:OpOK g w cons g' H' w' x v)(hK:∀g' v w',OpOK g w cons g' H' w' x v→K (a.put o.dst v) w'):o.wp P a w K Q:=by
 simp only[Oper.wp,he,Oper.upon]
 exact hK g' v w' hok
theorem QjV{ρA:Opd→AV}{ρ:Operand→Value}(hev:EvT g w ρA ρ){xs:Array Operand}{ys:List Opd}(h:opds xs.toList=some ys):
  (ys.map ρA).length=(xs.map ρ).size∧∀(i:Nat) a v,(ys.map ρA)[i]? =some a→(xs.map ρ)[i]? =some v→VR g w a v∧Triv a v:=by
 obtain⟨h1,h2⟩:=Qd1 h
 refine⟨by simp[h1],fun i a v ha hv=> ?_⟩
 simp only[List.getElem?_map,Array.getElem?_map,Option.map_eq_some_iff]at ha hv
 obtain⟨y,hy,rfl⟩:=ha
 obtain⟨x,hx,rfl⟩:=hv
 exact hev x y (h2 i x y (by simpa using hx) hy)
set_option maxHeartbeats 1000000 in
theorem op_sound{ops:List Oper}{c:COp}(hc:Qaf P tk ops o=some c)(hE:Qcn P E)(hinv:Inv g st a w){lim:Nat}(hlim:lim≤st.H.length)
  (hs:aop E lim st.H (evx st.T (Qap ops o)) c=some (x,H'))(hK:∀g' v w',OpOK g w (Qap ops o) g' H' w' x v→K (a.put o.dst v) w'):o.wp P a w K Q:=by
 have hev:=QjK hinv (Qap ops o)
 have nil_:Qap ops o= []→EvT g w (evx st.T (Qap ops o)) a.eval:=fun h=>by rw[h]at hev⊢;exact hev.triv
 cases ho:o.op with
 |move x=>exact Qav (Qex hc hinv.heap hev hs (.inl ⟨_,ho⟩)) hK
 |assign x=>exact Qav (Qex hc hinv.heap hev hs (.inr (.inl ⟨_,ho⟩))) hK
 |store t x y=>exact Qav (Qex hc hinv.heap hev hs (.inr (.inr ⟨_,_,_,ho⟩))) hK
 |pick _ _ _=>exact Qav (Qcr hc hinv.heap (nil_ (by simp[Qap,Qat,ho])) hs _ (fun x hx=>by subst hx;rfl) (by simp[ho])) hK
 |alloc _=>exact Qav (Qcr hc hinv.heap (nil_ (by simp[Qap,Qat,ho])) hs _ (fun x hx=>by subst hx;rfl) (by simp[ho])) hK
 |box _ _=>exact Qav (Qcr hc hinv.heap (nil_ (by simp[Qap,Qat,ho])) hs _ (fun x hx=>by subst hx;rfl) (by simp[ho])) hK
 |build _ _=>exact Qav (Qcr hc hinv.heap (nil_ (by simp[Qap,Qat,ho])) hs _ (fun x hx=>by subst hx;rfl) (by simp[ho])) hK
 |buildSlice _ _ _=>exact Qav (Qcr hc hinv.heap (nil_ (by simp[Qap,Qat,ho])) hs _ (fun x hx=>by subst hx;rfl) (by simp[ho])) hK
 |load _ _=>exact Qav (Qcr hc hinv.heap (nil_ (by simp[Qap,Qat,ho])) hs _ (fun x hx=>by subst hx;rfl) (by simp[ho])) hK
 |nilCheck _=>exact Qav (Qcr hc hinv.heap (nil_ (by simp[Qap,Qat,ho])) hs _ (fun x hx=>by subst hx;rfl) (by simp[ho])) hK
 |binOp _ _ _ _ _=>exact Qav (Qcr hc hinv.heap (nil_ (by simp[Qap,Qat,ho])) hs _ (fun x hx=>by subst hx;rfl) (by simp[ho])) hK
 |unOp _ _ _=>exact Qav (Qcr hc hinv.heap (nil_ (by simp[Qap,Qat,ho])) hs _ (fun x hx=>by subst hx;rfl) (by simp[ho])) hK
 |convert _ _ _=>exact Qav (Qcr hc hinv.heap (nil_ (by simp[Qap,Qat,ho])) hs _ (fun x hx=>by subst hx;rfl) (by simp[ho])) hK
 |makeInterface _ _=>exact Qav (Qbr hc hinv.heap (nil_ (by simp[Qap,Qat,ho])) hs _ (by simp[ho])) hK
 |makeFunc _ _ _=>exact Qav (Qbr hc hinv.heap (nil_ (by simp[Qap,Qat,ho])) hs _ (by simp[ho])) hK
 |makeMap _ _=>exact Qav (Qbr hc hinv.heap (nil_ (by simp[Qap,Qat,ho])) hs _ (by simp[ho])) hK
 |makeSlice _ _ _=>exact Qav (Qbr hc hinv.heap (nil_ (by simp[Qap,Qat,ho])) hs _ (by simp[ho])) hK
 |slice _ _ _ _ _=>exact Qav (Qbr hc hinv.heap (nil_ (by simp[Qap,Qat,ho])) hs _ (by simp[ho])) hK
 |fieldAddr _ _ _=>exact Qav (Qbr hc hinv.heap (nil_ (by simp[Qap,Qat,ho])) hs _ (by simp[ho])) hK
 |field _ _ _=>exact Qav (Qbr hc hinv.heap (nil_ (by simp[Qap,Qat,ho])) hs _ (by simp[ho])) hK
 |indexAddr _ _ _=>exact Qav (Qbr hc hinv.heap (nil_ (by simp[Qap,Qat,ho])) hs _ (by simp[ho])) hK
 |index _ _ _=>exact Qav (Qbr hc hinv.heap (nil_ (by simp[Qap,Qat,ho])) hs _ (by simp[ho])) hK
 |lookup _ _ _ _=>exact Qav (Qbr hc hinv.heap (nil_ (by simp[Qap,Qat,ho])) hs _ (by simp[ho])) hK
 |mapUpdate _ _ _ _=>exact Qav (Qbr hc hinv.heap (nil_ (by simp[Qap,Qat,ho])) hs _ (by simp[ho])) hK
 |insert _ _ _ _=>exact Qav (Qbr hc hinv.heap (nil_ (by simp[Qap,Qat,ho])) hs _ (by simp[ho])) hK
 |range _ _=>exact Qav (Qbr hc hinv.heap (nil_ (by simp[Qap,Qat,ho])) hs _ (by simp[ho])) hK
 |next _ _=>exact Qav (Qbr hc hinv.heap (nil_ (by simp[Qap,Qat,ho])) hs _ (by simp[ho])) hK
 |extract _ _=>exact Qav (Qbr hc hinv.heap (nil_ (by simp[Qap,Qat,ho])) hs _ (by simp[ho])) hK
 |call c'=>
  obtain⟨callee,args,ts⟩:=c'
  simp only[Qaf,ho]at hc
  cases callee with
  |builtin b=>
   by_cases hb:b= .append
   ·subst hb
    exact Qav (Qiw (by simpa[Qaw,QaM]using hc) hinv.heap hev hs ho (fun _ _ _ _ _=> .inr trivial)) hK
   ·exact Qav (QhB hb (by simpa[Qaw]using hc) hinv.heap _ (nil_ (by
     cases b<;>first|exact absurd rfl hb|simp[Qap,Qat,ho])) hs ho) hK
  |invoke _ _=>simp[Qaw]at hc
  |value f=>
   cases f with
   |const _=>simp[Qaw]at hc
   |global _=>simp[Qaw]at hc
   |func f=>
    simp only[Qaw]at hc
    split at hc
    rotate_left
    ·cases hc
    rename_i hto
    simp only[Option.map_eq_some_iff]at hc
    obtain⟨ys,hys,rfl⟩:=hc
    simp only[aop]at hs
    have hargs:∃tk:Option Nat,(∀t,tk=some t→t∈Qap ops o)∧(ys.map (evx st.T (Qap ops o))).length=(args.map a.eval).size∧∀(i:Nat) x v,(ys.map (evx st.T (Qap ops o)))[i]? =some x→(args.map a.eval)[i]? =some v→
      VR g w x v∧(Triv x v∨∃t,tk=some t∧i=0∧FOK g w (.slot t) x v):=by
     cases htf:Tab.tak f with
     |false=>
      have hn:Qap ops o= []:=by simp[Qap,Qat,ho,htf]
      obtain⟨h1,h2⟩:=QjV (nil_ hn) hys
      exact⟨none,by simp,h1,fun i x v hx hv=>⟨(h2 i x v hx hv).1,.inl (h2 i x v hx hv).2⟩⟩
     |true=>
      obtain⟨l1,l2⟩:=Qd1 hys
      have hlen:(ys.map (evx st.T (Qap ops o))).length=(args.map a.eval).size:=by simp[l1]
      have each:∀(i:Nat) x v,(ys.map (evx st.T (Qap ops o)))[i]? =some x→(args.map a.eval)[i]? =some v→∃z,args.toList[i]? =some z∧VR g w x v∧(Triv x v∨∃t,z= .tmp t∧t∈Qap ops o∧FOK g w (.slot t) x v):=fun i x v hx hv=>by
       simp only[List.getElem?_map,Array.getElem?_map,Option.map_eq_some_iff]at hx hv
       obtain⟨y,hy,rfl⟩:=hx
       obtain⟨z,hz,rfl⟩:=hv
       have hz':args.toList[i]? =some z:=by simpa using hz
       exact⟨z,hz',(hev z y (l2 i z y hz' hy)).1,(hev z y (l2 i z y hz' hy)).2⟩
      cases hal:args.toList with
      |nil=>
       refine⟨none,by simp,hlen,fun i x v hx hv=> ?_⟩
       obtain⟨z,hz,_⟩:=each i x v hx hv
       rw[hal]at hz;simp at hz
      |cons a0 as=>
       have hcon:Qap ops o=QdR a0:=by simp[Qap,Qat,ho,htf,hal]
       have honce:∀y∈as,∀t∈QdR y,t∉QdR a0:=by
        rw[htf,hal]at hto
        simpa[QlY]using hto
       refine⟨(QdR a0).head?,fun t ht=>by rw[hcon];exact List.mem_of_head? ht,hlen,fun i x v hx hv=> ?_⟩
       obtain⟨z,hz,h3,h4⟩:=each i x v hx hv
       refine⟨h3,h4.imp id ?_⟩
       rintro⟨t,rfl,h5,h6⟩
       rw[hal]at hz
       rw[hcon]at h5
       cases i with
       |zero=>
        simp only[List.getElem?_cons_zero,Option.some.injEq]at hz;subst hz
        exact⟨t,rfl,rfl,h6⟩
       |succ i=>
        simp only[List.getElem?_cons_succ]at hz
        exact absurd h5 (honce _ (List.mem_of_getElem? hz) t (by simp[QdR]))
    obtain⟨tk',htk,h1,h2⟩:=hargs
    rcases Qg8 (tk:=tk') (hE f) hinv.heap hinv.nores hlim hs h1 htk h2 with⟨q1,q2⟩|⟨v,g',w',q1,q2⟩
    ·refine Qnq ?_ q2 hK
     obtain⟨dst,op,type,pos,after,guard⟩:=o
     simp only at ho;subst ho
     show(callFunc f (#[]++args.map a.eval++ #[])).run P w=_
     simpa using q1
    ·refine Qj2 ?_ q2 hK
     obtain⟨dst,op,type,pos,after,guard⟩:=o
     simp only at ho;subst ho
     show(callFunc f (#[]++args.map a.eval++ #[])).run P w=_
     simpa using q1
   |tmp t=>
    simp only[Qaw,Option.map_eq_some_iff]at hc
    obtain⟨ys,hys,rfl⟩:=hc
    have hn:Qap ops o= []:=by simp[Qap,Qat,ho]
    have hev':=nil_ hn
    obtain⟨h1,h2⟩:=QjV hev' hys
    simp only[aop]at hs
    split at hs
    ·rename_i f caps hf
     have hfv:=(hev' (.tmp t) (.t t) rfl).1
     rw[hf]at hfv
     have hfe:∃vs:Array Value,a.eval (.tmp t)= .func (.func f) #[] vs∧caps.length=vs.size∧(∀(i:Nat) c v,caps[i]? =some c→vs[i]? =some v→VR g w c v∧Triv c v):=by
      generalize a.eval (.tmp t)=z at hfv
      cases hfv with
      |func _ _ vs hl h ht=>exact⟨vs,rfl,hl,fun i c v hc hv=>⟨h i c v hc hv,ht i c v hc hv⟩⟩
     obtain⟨vs,e1,e2,e3⟩:=hfe
     have qq:=Qg8 (tk:=none) (cons:=Qap ops o) (vals:=args.map a.eval++vs) (hE f) hinv.heap hinv.nores hlim hs (by simp only[List.length_append,Array.size_append,h1,e2]) (by simp) (fun i x v hx hv=>by
      rcases Nat.lt_or_ge i (ys.map (evx st.T (Qap ops o))).length with hi|hi
      ·rw[List.getElem?_append_left hi]at hx
       rw[Array.getElem?_append_left (by rw[←h1];exact hi)]at hv
       exact⟨(h2 i x v hx hv).1,.inl (h2 i x v hx hv).2⟩
      ·rw[List.getElem?_append_right hi]at hx
       rw[Array.getElem?_append_right (by rw[←h1];exact hi),←h1]at hv
       exact⟨(e3 _ x v hx hv).1,.inl (e3 _ x v hx hv).2⟩)
     rcases qq with⟨q1,q2⟩|⟨v,g',w',q1,q2⟩
     ·refine Qnq ?_ q2 hK
      obtain⟨dst,op,type,pos,after,guard⟩:=o
      simp only at ho;subst ho
      simp only[execOp,resolve,e1,Deferred.ofValue,pure_bind,invoke]
      simpa using q1
     ·refine Qj2 ?_ q2 hK
      obtain⟨dst,op,type,pos,after,guard⟩:=o
      simp only at ho;subst ho
      simp only[execOp,resolve,e1,Deferred.ofValue,pure_bind,invoke]
      simpa using q1
    ·simp at hs
 |panic x=>
  simp only[Qaf,ho,Option.map_eq_some_iff]at hc
  obtain⟨y,_,rfl⟩:=hc
  simp[aop]at hs
 |_=>simp[Qaf,ho]at hc
theorem Qfu(hinv:Inv g st a w){ops:Array Oper}{c:COper}(hc:Qal P tk ops.toList o=some c){b:Bool}(hw:wanted st.T c.guard=some b):Region.wanted o (yielded ops a.tmps)=b:=by
 obtain⟨dst,op,type,pos,after,guard⟩:=o
 simp only[Qal,Option.bind_eq_bind,Option.pure_def,Option.bind_eq_some_iff]at hc
 obtain⟨y,hy,hc⟩:=hc
 cases guard with
 |none=>
  simp at hc;subst hc
  simp[wanted]at hw;subst hw
  rfl
 |some jw=>
  obtain⟨j,want⟩:=jw
  simp only[Option.bind_eq_some_iff,Option.some.injEq]at hc
  obtain⟨p,hp,t,ht,rfl⟩:=hc
  have hp':ops[j]? =some p:=by simpa using hp
  simp only[Region.wanted]
  by_cases hlt:t<st.T.length
  ·have h1:st.T[t]? =some st.T[t]:=List.getElem?_eq_getElem hlt
   have hlt':t<a.tmps.size:=by rw[←hinv.size];exact hlt
   have h2:a.tmps[t]? =some a.tmps[t]:=Array.getElem?_eq_getElem hlt'
   have hv:=(hinv.tok t _ _ h1 h2).1
   have e1:st.T.getD t .undef=st.T[t]:=by simp[List.getD,h1]
   have ey:yielded ops a.tmps j=(match some a.tmps[t]with|some (Value.bool b)=>some b|_=>none):=by
    unfold yielded;rw[hp',Option.bind_some,ht,Option.bind_some,h2];rfl
   rw[ey]
   simp only[wanted,e1]at hw
   generalize st.T[t]=y at hw hv
   generalize a.tmps[t]=z at hv
   split at hw
   ·rename_i b'
    have:=QcV hv
    subst this
    simp at hw⊢
    exact hw
   ·simp at hw;subst hw
    cases hv
    rfl
   ·simp at hw
  ·have e1:st.T.getD t .undef= .undef:=by simp[List.getD,List.getElem?_eq_none (Nat.le_of_not_lt hlt)]
   simp only[wanted,e1]at hw
   simp at hw
theorem Qb3{ops:Array Oper}{c:COper}(hc:Qal P tk ops.toList o=some c)(hE:Qcn P E)(hinv:Inv g st a w){lim:Nat}(hlim:lim≤st.H.length)
  {st':St}(hs:stepOp E lim c st=some st')(hK:∀g' a' w',WF g w g' w'→Inv g' st' a' w'→Ext lim st.H st'.H→K a' w'):
  if Region.wanted o (yielded ops a.tmps)then o.wp P a w K Q∨(o.asks P a w∧LetsOut Q)else K (a.put o.dst undef) w:=by
 have hcc:∃y,Qaf P tk ops.toList o=some y∧c.op=y∧c.dst=o.dst∧c.cons=Qap ops.toList o:=by
  obtain⟨dst,op,type,pos,after,guard⟩:=o
  simp only[Qal,Option.bind_eq_bind,Option.pure_def,Option.bind_eq_some_iff]at hc
  obtain⟨y,hy,hc⟩:=hc
  cases guard with
  |none=>simp at hc;subst hc;exact⟨y,hy,rfl,rfl,rfl⟩
  |some jw=>
   obtain⟨j,want⟩:=jw
   simp only[Option.bind_eq_some_iff,Option.some.injEq]at hc
   obtain⟨p,hp,t,ht,rfl⟩:=hc
   exact⟨y,hy,rfl,rfl,rfl⟩
 obtain⟨y,hy,h1,h2,h3⟩:=hcc
 unfold stepOp at hs
 split at hs
 ·rename_i hw
  rw[Qfu hinv hc hw]
  rw[if_pos rfl]
  refine .inl ?_
  split at hs
  ·rename_i v H' he
   simp only[Option.some.injEq]at hs
   subst hs
   rw[h1,h3]at he
   refine op_sound hy hE hinv hlim he fun g' u w' hok=> ?_
   rw[h3,h2]at hK
   exact hK _ _ _ (hok.wf.trans (QcZ _ _ _ _)) (QiF hinv hok o.dst) (QnA hE hlim he)
  ·simp at hs
 ·rename_i hw
  rw[Qfu hinv hc hw]
  rw[if_neg (by simp)]
  simp only[Option.some.injEq]at hs
  subst hs
  rw[h2]at hK
  have hok:OpOK g w [] g st.H w (.tuple []) undef:= .same hinv.heap (.tuple [] #[] rfl (fun i c v h=>by simp at h) (fun i c v h=>by simp at h)) (fun xs e=>by cases e)
  exact hK _ _ _ (hok.wf.trans (QcZ _ _ _ _)) (QiF hinv hok o.dst) (Ext.refl _ _)
 ·simp at hs
end
end Go.Abs
namespace Go.Abs
open Go.RowKit
variable [Tab] [Dfr]
def AExit.exit':AExit→Exit
 |.normal=> .normal
 |.exit id=> .exit id
 |.ret=> .ret
def Qe8(P:Program)(c:Code)(Q:Exit→Act→World→Prop)(a:Act)(w:World):Prop:=
 ∀(b:Frame) (k:List Item) (cs:List Frame),∃e a' w',Q e a' w'∧Arrives P (lone (b.at a (.code c:: .inLoop c::k)) cs w) b k cs e a' w'
section
variable {P:Program} {Q:Exit→Act→World→Prop} {a:Act} {w:World}
theorem QfU{c:Code}(h:Qe8 P c Q a w):(Code.loop c).wp P Q a w:=fun b k cs=>
 let⟨e,a',w',hq,harr⟩:=h b k cs;⟨e,a',w',hq,.of_steps (.one step_loop) harr⟩
theorem Qca{c:Code}(h:c.wp P (Exit.then (Qe8 P c Q) Q) a w):Qe8 P c Q a w:=by
 intro b k cs
 obtain⟨e,a₁,w₁,hq,harr⟩:=h b (.inLoop c::k) cs
 cases e with
 |normal=>
  obtain⟨e₂,a₂,w₂,hq₂,harr₂⟩:=hq b k cs
  exact⟨e₂,a₂,w₂,hq₂,.of_steps (Steps.trans harr (.one step_inLoop)) harr₂⟩
 |exit id=>exact⟨_,a₁,w₁,hq,.pass (x:= .inLoop c) rfl (fun _ _=> .inl (by simp)) harr⟩
 |goto l=>exact⟨_,a₁,w₁,hq,.pass (x:= .inLoop c) rfl (fun _ _=> .inl (by simp)) harr⟩
 |ret=>exact⟨_,a₁,w₁,hq,.pass (x:= .inLoop c) rfl (fun _ _=> .inl (by simp)) harr⟩
 |panic ch=>exact⟨_,a₁,w₁,hq,.pass (x:= .inLoop c) rfl (fun _ _=> .inl (by simp)) harr⟩
 |outgrown=>exact⟨_,a₁,w₁,hq,.pass (x:= .inLoop c) rfl (fun _ _=> .inl (by simp)) harr⟩
end
section
variable {P:Program} {E:Qa0} {tk:FuncId→Nat→Bool} {Q:Exit→Act→World→Prop}
theorem Qey{ops:Array Oper}(hE:Qcn P E){lim:Nat}:∀(l:List Oper) (cs:List COper) {g:Gh} {w:World} {st:St} {a:Act} {st':St},
  l.mapM (Qal P tk ops.toList)=some cs→Inv g st a w→lim≤st.H.length→runOps E lim cs st=some st'→
  (∀g' a' w',WF g w g' w'→Inv g' st' a' w'→Ext lim st.H st'.H→Q .normal a' w')→wpList P ops Q l a w:=by
 intro l
 induction l with
 |nil=>
  intro cs g w st a st' hc hinv hlim hr hQ
  simp at hc;subst hc
  simp only[runOps,Option.some.injEq]at hr;subst hr
  exact hQ _ _ _ (WF.refl _ _) hinv (Ext.refl _ _)
 |cons o l ih=>
  intro cs g w st a st' hc hinv hlim hr hQ
  simp only[List.mapM_cons,Option.bind_eq_bind,Option.pure_def,Option.bind_eq_some_iff,Option.some.injEq]at hc
  obtain⟨c,hco,cs',hcs,rfl⟩:=hc
  simp only[runOps]at hr
  split at hr
  ·rename_i st1 h1
   simp only[wpList]
   refine Qb3 hco hE hinv hlim h1 fun g' a' w' hw hi hx=> ?_
   exact ih cs' hcs hi (Nat.le_trans hlim hx.1) hr fun g'' a'' w'' hw' hi' hx'=>hQ _ _ _ (hw.trans hw') hi' (hx.trans hx')
  ·simp at hr
theorem Qlx:∀(ns:List Nat) (T:List AV) (i:Nat) (x:AV),(forgetT T ns)[i]? =some x→x= .undef∨T[i]? =some x:=by
 intro ns
 induction ns with
 |nil=>intro T i x h;exact .inr h
 |cons n ns ih=>
  intro T i x h
  simp only[forgetT]at h
  rcases ih _ i x h with h|h
  ·exact .inl h
  ·by_cases hn:n=i
   ·subst hn
    by_cases hl:n<T.length
    ·rw[List.getElem?_set_self hl]at h;simp at h;exact .inl h.symm
    ·rw[List.getElem?_eq_none (by rw[List.length_set];exact Nat.le_of_not_lt hl)]at h;cases h
   ·rw[List.getElem?_set_ne hn]at h;exact .inr h
theorem QeG:∀(ns:List Nat) (T:List AV),(forgetT T ns).length=T.length:=by
 intro ns
 induction ns with
 |nil=>intro T;rfl
 |cons n ns ih=>intro T;simp only[forgetT];rw[ih];simp
theorem QeB{g:Gh}{w:World}{st:St}{a:Act}(h:Inv g st a w)(ns:List Nat):Inv g ⟨forgetT st.T ns,st.H⟩ a w where
 heap:=h.heap
 size:=by rw[←h.size];exact QeG _ _
 tok i x v hx hv:=by
  rcases Qlx _ _ i x hx with rfl|hx
  ·exact⟨.undef _,FOK.ne (by simp)⟩
  ·exact h.tok i x v hx hv
 nores:=h.nores
 defers:=h.defers
theorem Qet{E:Qa0}{lim:Nat}{L:(St→Option (St ⊕(AExit×St)))→St→Option (AExit×St)}:∀(c:CCode) {st st':St} {x:AExit},c.outs=true→evalC E lim L c st=some (x,st')→x≠ .normal
 |.ret,st,st',x,_,h=>by simp only[evalC,Option.some.injEq,Prod.mk.injEq]at h;rw[←h.1];simp
 |.exit _,st,st',x,_,h=>by simp only[evalC,Option.some.injEq,Prod.mk.injEq]at h;rw[←h.1];simp
 |.seq a b,st,st',x,ho,h=>by
  simp only[CCode.outs,Bool.or_eq_true]at ho
  simp only[evalC]at h
  split at h
  ·rename_i s1 h1
   rcases ho with ho|ho
   ·exact absurd rfl (Qet a ho h1)
   ·exact Qet b ho h
  ·rename_i hne
   intro e;subst e;exact hne _ h
 |.cond o a b,st,st',x,ho,h=>by
  simp only[CCode.outs,Bool.and_eq_true]at ho
  simp only[evalC]at h
  split at h
  ·rename_i t _
   cases t with
   |true=>exact Qet a ho.1 (by simpa using h)
   |false=>exact Qet b ho.2 (by simpa using h)
  ·split at h
   ·rename_i s1 s2 h1 h2
    simp only[QiD]at h
    split at h
    ·simp only[Option.some.injEq,Prod.mk.injEq]at h
     obtain⟨rfl,-⟩:=h
     exact Qet a ho.1 (show evalC E lim L a st=some (s1.1,s1.2)from h1)
    ·simp at h
   ·simp at h
  ·simp at h
 |.skip,_,_,_,ho,_=>by simp[CCode.outs]at ho
 |.region ..,_,_,_,ho,_=>by simp[CCode.outs]at ho
 |.block ..,_,_,_,ho,_=>by simp[CCode.outs]at ho
 |.loop _,_,_,_,ho,_=>by simp[CCode.outs]at ho
theorem Qdc:∀(xs ys:List AV) (i:Nat) (z:AV),xs.length=ys.length→(QdJ xs ys)[i]? =some z→z= .undef∨(xs[i]? =some z∧ys[i]? =some z)
 | [],[],i,z,_,h=>by simp[QdJ]at h
 |x::xs,y::ys,i,z,hl,h=>by
  cases i with
  |zero=>
   simp only[QdJ,List.getElem?_cons_zero,Option.some.injEq]at h
   split at h
   ·rename_i hb
    have hb:=AV.beq_eq hb
    subst hb;subst h
    exact .inr ⟨rfl,rfl⟩
   ·exact .inl h.symm
  |succ i=>
   simp only[QdJ,List.getElem?_cons_succ]at h⊢
   exact Qdc xs ys i z (by simpa using hl) h
 | [],_::_,_,_,hl,_=>by simp at hl
 |_::_,[],_,_,hl,_=>by simp at hl
theorem Qcc:∀(xs ys:List AV),xs.length=ys.length→(QdJ xs ys).length=xs.length
 | [],[],_=>rfl
 |x::xs,y::ys,hl=>by simp only[QdJ,List.length_cons];rw[Qcc xs ys (by simpa using hl)]
 | [],_::_,hl=>by simp at hl
 |_::_,[],hl=>by simp at hl
theorem Qd6{g:Gh}{w:World}{T T':List AV}{H:Qab}{a:Act}(h:Inv g ⟨T,H⟩ a w)(hl:T'.length=T.length)(hg:∀(i:Nat) z,T'[i]? =some z→z= .undef∨T[i]? =some z):Inv g ⟨T',H⟩ a w where
 heap:=h.heap
 size:=by rw[←h.size];exact hl
 tok i x v hx hv:=by
  rcases hg i x hx with rfl|hx
  ·exact⟨.undef _,FOK.ne (by simp)⟩
  ·exact h.tok i x v hx hv
 nores:=h.nores
 defers:=h.defers
def Qgw(P:Program)(tk:FuncId→Nat→Bool)(E:Qa0):Prop:=
 ∀(kp:List Nat) (id:Nat) (ops:Array Oper) (cs:List COper) (chk:Option Chk) (fg:List Nat) (lim:Nat) (g:Gh) (w:World) (st:St) (a:Act) (st':St) (Q:Exit→Act→World→Prop),
  QaI P tk kp ops true=some (.region cs chk fg)→Inv g st a w→lim≤st.H.length→evalR E lim cs chk fg st=some st'→
  (∀g' a' w',WF g w g' w'→Inv g' st' a' w'→Ext lim st.H st'.H→Q .normal a' w')→(Code.region id ops true).wp P Q a w
theorem Qao(hE:Qcn P E)(hD:Qgw P tk E){kp:List Nat}{L:(St→Option (St ⊕(AExit×St)))→St→Option (AExit×St)}
  (hL:∀body s r,L body s=some r→∃n,Qas body n s=some r){lim:Nat}:∀(c:Code) (cc:CCode) {g:Gh} {w:World} {st:St} {a:Act} {x:AExit} {st':St} {Q:Exit→Act→World→Prop},
  Qac P tk kp c=some cc→Inv g st a w→lim≤st.H.length→evalC E lim L cc st=some (x,st')→
  (∀g' a' w',WF g w g' w'→Inv g' st' a' w'→Ext lim st.H st'.H→Q x.exit' a' w')→c.wp P Q a w
 |.skip,cc,g,w,st,a,x,st',Q,hc,hinv,hlim,he,hQ=>by
  simp only[Qac,Option.some.injEq]at hc;subst hc
  simp only[evalC,Option.some.injEq,Prod.mk.injEq]at he
  obtain⟨rfl,rfl⟩:=he
  exact wp_skip (hQ _ _ _ (WF.refl _ _) hinv (Ext.refl _ _))
 |.label _,cc,g,w,st,a,x,st',Q,hc,hinv,hlim,he,hQ=>by
  simp only[Qac,Option.some.injEq]at hc;subst hc
  simp only[evalC,Option.some.injEq,Prod.mk.injEq]at he
  obtain⟨rfl,rfl⟩:=he
  exact wp_label (hQ _ _ _ (WF.refl _ _) hinv (Ext.refl _ _))
 |.scope c,cc,g,w,st,a,x,st',Q,hc,hinv,hlim,he,hQ=>by
  simp only[Qac]at hc
  refine wp_scope_straight (Qao hE hD hL c cc hc hinv hlim he fun g' a' w' hw hi hx=> ?_)
  have:=hQ g' a' w' hw hi hx
  cases x<;>exact this
 |.exit id,cc,g,w,st,a,x,st',Q,hc,hinv,hlim,he,hQ=>by
  simp only[Qac,Option.some.injEq]at hc;subst hc
  simp only[evalC,Option.some.injEq,Prod.mk.injEq]at he
  obtain⟨rfl,rfl⟩:=he
  exact wp_exit (hQ _ _ _ (WF.refl _ _) hinv (Ext.refl _ _))
 |.ret,cc,g,w,st,a,x,st',Q,hc,hinv,hlim,he,hQ=>by
  simp only[Qac,Option.some.injEq]at hc;subst hc
  simp only[evalC,Option.some.injEq,Prod.mk.injEq]at he
  obtain⟨rfl,rfl⟩:=he
  exact wp_ret (hQ _ _ _ (WF.refl _ _) hinv (Ext.refl _ _))
 |.region id ops draw,cc,g,w,st,a,x,st',Q,hc,hinv,hlim,he,hQ=>by
  simp only[Qac]at hc
  cases draw with
  |true=>
   have hcc:∃cs chk fg,cc= .region cs chk fg:=by
    simp only[QaI,Option.bind_eq_bind,Option.pure_def,Option.bind_eq_some_iff]at hc
    obtain⟨cs,_,hc⟩:=hc
    simp only[if_true]at hc
    split at hc
    ·simp at hc;exact⟨_,_,_,hc.symm⟩
    ·simp at hc
   obtain⟨cs,chk,fg,rfl⟩:=hcc
   simp only[evalC]at he
   split at he
   ·rename_i s1 h1
    simp only[Option.some.injEq,Prod.mk.injEq]at he
    obtain⟨rfl,rfl⟩:=he
    exact hD kp id ops cs chk fg lim g w st a s1 Q hc hinv hlim h1 hQ
   ·simp at he
  |false=>
   simp only[QaI,Option.bind_eq_bind,Option.pure_def,Option.bind_eq_some_iff]at hc
   obtain⟨cs,hcs,hc⟩:=hc
   simp at hc;subst hc
   simp only[evalC]at he
   split at he
   ·rename_i s1 h1
    simp only[Option.some.injEq,Prod.mk.injEq]at he
    obtain⟨rfl,rfl⟩:=he
    simp only[evalR]at h1
    split at h1
    ·rename_i s2 h2
     simp only[Option.some.injEq]at h1;subst h1
     exact wp_region_list (Qey hE _ cs hcs hinv hlim h2 fun g' a' w' hw hi hx=>hQ _ _ _ hw (QeB hi _) hx)
    ·simp at h1
   ·simp at he
 |.seq c d,cc,g,w,st,a,x,st',Q,hc,hinv,hlim,he,hQ=>by
  simp only[Qac,Option.bind_eq_bind,Option.pure_def,Option.bind_eq_some_iff,Option.some.injEq]at hc
  obtain⟨c1,hc1,d1,hd1,rfl⟩:=hc
  have plain:evalC E lim L (.seq c1 d1) st=some (x,st')→(Code.seq c d).wp P Q a w:=by
   intro he
   simp only[evalC]at he
   split at he
   ·rename_i s1 h1
    refine wp_seq (Qao hE hD hL c c1 hc1 hinv hlim h1 fun g' a' w' hw hi hx=> ?_)
    exact Qao hE hD hL d d1 hd1 hi (Nat.le_trans hlim hx.1) he fun g'' a'' w'' hw' hi' hx'=>hQ _ _ _ (hw.trans hw') hi' (hx.trans hx')
   ·rename_i hne
    refine wp_seq (Qao hE hD hL c c1 hc1 hinv hlim he fun g' a' w' hw hi hx=> ?_)
    have:=hQ _ _ _ hw hi hx
    cases x with
    |normal=>exact absurd he (hne _)
    |exit id=>exact this
    |ret=>exact this
  unfold QmP at he
  split at he
  ·rename_i id ops draw o q1 q2 r1 o1 x1 y1
   split at he
   ·rename_i hout
    simp only[Qac,Option.bind_eq_bind,Option.pure_def,Option.bind_eq_some_iff,Option.some.injEq]at hc1
    obtain⟨r2,hr2,cc2,⟨o2,ho2,x2,hx2,y2,hy2,rfl⟩,hmk⟩:=hc1
    simp only[QmP,CCode.seq.injEq,CCode.cond.injEq]at hmk
    obtain⟨rfl,rfl,rfl,rfl⟩:=hmk
    simp only[evalC]at he
    split at he
    ·rename_i s1 h1
     refine wp_seq (wp_seq (Qao hE hD hL (.region id ops draw) r2 (by rw[Qac];exact hr2) hinv hlim h1 fun g' a' w' hw hi hx=> ?_))
     have tru:∀ {s2:St},evalC E lim L x2 s1=some (x,s2)→(∀g'' a'' w'',WF g' w' g'' w''→Inv g'' s2 a'' w''→Ext lim s1.H s2.H→Q x.exit' a'' w'')→q1.wp P (Exit.then (Code.wp P d Q) Q) a' w':=fun{s2} h2 k=>by
      have hne:=Qet x2 hout h2
      refine Qao hE hD hL q1 x2 hx2 hi (Nat.le_trans hlim hx.1) h2 fun g'' a'' w'' hw' hi' hx'=> ?_
      have:=k _ _ _ hw' hi' hx'
      cases x with
      |normal=>exact absurd rfl hne
      |exit id=>exact this
      |ret=>exact this
     have fal:∀ {s2:St},evalC E lim L (.seq y2 d1) s1=some (x,s2)→(∀g'' a'' w'',WF g' w' g'' w''→Inv g'' s2 a'' w''→Ext lim s1.H s2.H→Q x.exit' a'' w'')→q2.wp P (Exit.then (Code.wp P d Q) Q) a' w':=fun{s2} h2 k=>by
      simp only[evalC]at h2
      split at h2
      ·rename_i s3 h3
       refine Qao hE hD hL q2 y2 hy2 hi (Nat.le_trans hlim hx.1) h3 fun g'' a'' w'' hw' hi' hx'=> ?_
       exact Qao hE hD hL d d1 hd1 hi' (Nat.le_trans hlim (Nat.le_trans hx.1 hx'.1)) h2 fun g3 a3 w3 hw3 hi3 hx3=>k _ _ _ (hw'.trans hw3) hi3 (hx'.trans hx3)
      ·rename_i hne
       refine Qao hE hD hL q2 y2 hy2 hi (Nat.le_trans hlim hx.1) h2 fun g'' a'' w'' hw' hi' hx'=> ?_
       have:=k _ _ _ hw' hi' hx'
       cases x with
       |normal=>exact absurd h2 (hne _)
       |exit id=>exact this
       |ret=>exact this
     have hv:=(QjK hi [] o o2 ho2).1
     split at he
     ·rename_i t ht
      rw[ht]at hv
      refine wp_cond (QcV hv) ?_
      cases t with
      |true=>exact tru (by simpa using he) fun g'' a'' w'' hw' hi' hx'=>hQ _ _ _ (hw.trans hw') hi' (hx.trans hx')
      |false=>exact fal (by simpa only[evalC,Bool.false_eq_true,if_false]using he) fun g'' a'' w'' hw' hi' hx'=>hQ _ _ _ (hw.trans hw') hi' (hx.trans hx')
     ·rename_i ht
      rw[ht]at hv
      split at he
      ·rename_i e1 e2 h1' h2'
       obtain⟨x1,s1'⟩:=e1
       obtain⟨x2',s2'⟩:=e2
       simp only[QiD]at he
       split at he
       ·rename_i hj
        obtain⟨rfl,hlen,hb⟩:=hj
        simp only[Option.some.injEq,Prod.mk.injEq]at he
        obtain⟨rfl,rfl⟩:=he
        have hb:=Qb4 hb
        obtain⟨bt,hbt⟩:=QhX hv
        refine wp_cond hbt ?_
        cases bt with
        |true=>exact tru h1' fun g'' a'' w'' hw' hi' hx'=>hQ _ _ _ (hw.trans hw') (Qd6 hi' (Qcc _ _ hlen) fun i z hz=>(Qdc _ _ i z hlen hz).imp (fun h=>h) (·.1)) (hx.trans hx')
        |false=>exact fal h2' fun g'' a'' w'' hw' hi' hx'=>hQ _ _ _ (hw.trans hw') (by rw[hb];exact Qd6 hi' (by rw[Qcc _ _ hlen,hlen]) fun i z hz=>(Qdc _ _ i z hlen hz).imp (fun h=>h) (·.2)) (by rw[hb];exact hx.trans hx')
       ·simp at he
      ·simp at he
     ·simp at he
    ·rename_i hne
     refine wp_seq (wp_seq (Qao hE hD hL (.region id ops draw) r2 (by rw[Qac];exact hr2) hinv hlim he fun g' a' w' hw hi hx=> ?_))
     have:=hQ _ _ _ hw hi hx
     cases x with
     |normal=>exact absurd he (hne _)
     |exit id=>exact this
     |ret=>exact this
   ·exact plain he
  ·exact plain he
 |.cond c d e,cc,g,w,st,a,x,st',Q,hc,hinv,hlim,he,hQ=>by
  simp only[Qac,Option.bind_eq_bind,Option.pure_def,Option.bind_eq_some_iff,Option.some.injEq]at hc
  obtain⟨c1,hc1,d1,hd1,e1,he1,rfl⟩:=hc
  simp only[evalC]at he
  split at he
  ·rename_i t ht
   have hv:=(QjK hinv [] c c1 hc1).1
   rw[ht]at hv
   refine wp_cond (QcV hv) ?_
   cases t with
   |true=>exact Qao hE hD hL d d1 hd1 hinv hlim (by simpa using he) hQ
   |false=>exact Qao hE hD hL e e1 he1 hinv hlim (by simpa using he) hQ
  ·rename_i ht
   have hv:=(QjK hinv [] c c1 hc1).1
   rw[ht]at hv
   split at he
   ·rename_i r1 r2 h1' h2'
    obtain⟨x1,s1'⟩:=r1
    obtain⟨x2',s2'⟩:=r2
    simp only[QiD]at he
    split at he
    ·rename_i hj
     obtain⟨rfl,hlen,hb⟩:=hj
     simp only[Option.some.injEq,Prod.mk.injEq]at he
     obtain⟨rfl,rfl⟩:=he
     have hb:=Qb4 hb
     obtain⟨bt,hbt⟩:=QhX hv
     refine wp_cond hbt ?_
     cases bt with
     |true=>exact Qao hE hD hL d d1 hd1 hinv hlim h1' fun g'' a'' w'' hw' hi' hx'=>hQ _ _ _ hw' (Qd6 hi' (Qcc _ _ hlen) fun i z hz=>(Qdc _ _ i z hlen hz).imp (fun h=>h) (·.1)) hx'
     |false=>exact Qao hE hD hL e e1 he1 hinv hlim h2' fun g'' a'' w'' hw' hi' hx'=>hQ _ _ _ hw' (by rw[hb];exact Qd6 hi' (by rw[Qcc _ _ hlen,hlen]) fun i z hz=>(Qdc _ _ i z hlen hz).imp (fun h=>h) (·.2)) (by rw[hb];exact hx')
    ·simp at he
   ·simp at he
  ·simp at he
 |.block id c,cc,g,w,st,a,x,st',Q,hc,hinv,hlim,he,hQ=>by
  simp only[Qac,Option.bind_eq_bind,Option.pure_def,Option.bind_eq_some_iff,Option.some.injEq]at hc
  obtain⟨c1,hc1,rfl⟩:=hc
  simp only[evalC]at he
  split at he
  ·rename_i i s1 h1
   refine wp_block (Qao hE hD hL c c1 hc1 hinv hlim h1 fun g' a' w' hw hi hx=> ?_)
   split at he
   ·rename_i hid
    simp only[Option.some.injEq,Prod.mk.injEq]at he
    obtain⟨rfl,rfl⟩:=he
    simp only[AExit.exit',Exit.inBlock,hid,if_true]
    exact hQ _ _ _ hw hi hx
   ·rename_i hid
    simp only[Option.some.injEq,Prod.mk.injEq]at he
    obtain⟨rfl,rfl⟩:=he
    simp only[AExit.exit',Exit.inBlock,hid,if_false]
    exact hQ _ _ _ hw hi hx
  ·rename_i hne
   refine wp_block (Qao hE hD hL c c1 hc1 hinv hlim he fun g' a' w' hw hi hx=> ?_)
   have:=hQ _ _ _ hw hi hx
   cases x with
   |normal=>exact this
   |exit id=>exact absurd he (hne _ _)
   |ret=>exact this
 |.loop c,cc,g,w,st,a,x,st',Q,hc,hinv,hlim,he,hQ=>by
  simp only[Qac,Option.bind_eq_bind,Option.pure_def,Option.bind_eq_some_iff,Option.some.injEq]at hc
  obtain⟨c1,hc1,rfl⟩:=hc
  simp only[evalC]at he
  obtain⟨n,hn⟩:=hL _ _ _ he
  refine QfU ?_
  have key:∀(n:Nat) {g:Gh} {w:World} {st:St} {a:Act},Inv g st a w→lim≤st.H.length→
    Qas (fun s=>match evalC E lim L c1 s with
     |some (.normal,s')=>some (.inl s')
     |some r=>some (.inr r)
     |none=>none) n st=some (x,st')→(∀g' a' w',WF g w g' w'→Inv g' st' a' w'→Ext lim st.H st'.H→Q x.exit' a' w')→Qe8 P c Q a w:=by
   intro n
   induction n with
   |zero=>intro g w st a _ _ h;simp[Qas]at h
   |succ n ih=>
    intro g w st a hinv hlim h hQ
    simp only[Qas]at h
    split at h
    ·rename_i s1 h1
     split at h1
     ·rename_i s2 h2
      simp only[Option.some.injEq,Sum.inl.injEq]at h1;subst h1
      refine Qca (Qao hE hD hL c c1 hc1 hinv hlim h2 fun g' a' w' hw hi hx=> ?_)
      exact ih hi (Nat.le_trans hlim hx.1) h fun g'' a'' w'' hw' hi' hx'=>hQ _ _ _ (hw.trans hw') hi' (hx.trans hx')
     ·simp at h1
     ·simp at h1
    ·rename_i r h1
     simp only[Option.some.injEq]at h;subst h
     split at h1
     ·simp at h1
     ·rename_i r' hne h2
      simp only[Option.some.injEq,Sum.inr.injEq]at h1;subst h1
      refine Qca (Qao hE hD hL c c1 hc1 hinv hlim h2 fun g' a' w' hw hi hx=> ?_)
      have:=hQ _ _ _ hw hi hx
      cases x with
      |normal=>exact absurd rfl (hne _)
      |exit id=>exact this
      |ret=>exact this
     ·simp at h1
    ·simp at h
  exact key n hinv hlim hn hQ
 |.goto _,cc,_,_,_,_,_,_,_,hc,_,_,_,_=>by simp[Qac]at hc
end
end Go.Abs
namespace Go.Abs
open Go.RowKit
variable [Tab]
section
variable {P:Program} {E:Qa0}
theorem Qk0(hE:Qcn P E){lim:Nat}{c:COper}{st st':St}(hlim:lim≤st.H.length)(h:stepOp E lim c st=some st'):Ext lim st.H st'.H:=by
 unfold stepOp at h
 split at h
 ·split at h
  ·rename_i he
   simp only[Option.some.injEq]at h;subst h
   exact QnA hE hlim he
  ·simp at h
 ·simp only[Option.some.injEq]at h;subst h;exact Ext.refl _ _
 ·simp at h
theorem Qeo(hE:Qcn P E){lim:Nat}:∀(cs:List COper) {st st':St},lim≤st.H.length→runOps E lim cs st=some st'→Ext lim st.H st'.H:=by
 intro cs
 induction cs with
 |nil=>intro st st' _ h;simp only[runOps,Option.some.injEq]at h;subst h;exact Ext.refl _ _
 |cons c cs ih=>
  intro st st' hlim h
  simp only[runOps]at h
  split at h
  ·rename_i s1 h1
   have:=Qk0 hE hlim h1
   exact this.trans (ih (Nat.le_trans hlim this.1) h)
  ·simp at h
theorem QgI{lim:Nat}{c:COper}{st st':St}{r:Rec}(h:stepRec E lim c st=some (r,st')):stepOp E lim c st=some st':=by
 unfold stepRec at h
 unfold stepOp
 split at h
 ·rename_i hw
  split at h
  ·rename_i he
   simp only[Option.some.injEq,Prod.mk.injEq]at h
   simp[he,h.2]
  ·simp at h
 ·rename_i hw
  simp only[Option.some.injEq,Prod.mk.injEq]at h
  simp[h.2]
 ·simp at h
theorem Qa2{lim:Nat}:∀(cs:List COper) {st st':St} {rs:List Rec},traceOps E lim cs st=some (rs,st')→runOps E lim cs st=some st':=by
 intro cs
 induction cs with
 |nil=>intro st st' rs h;simp only[traceOps,Option.some.injEq,Prod.mk.injEq]at h;simp[runOps,h.2]
 |cons c cs ih=>
  intro st st' rs h
  simp only[traceOps]at h
  split at h
  ·rename_i r s1 h1
   split at h
   ·rename_i rs' s2 h2
    simp only[Option.some.injEq,Prod.mk.injEq]at h
    simp only[runOps,QgI h1,ih h2,h.2]
   ·simp at h
  ·simp at h
theorem Qne(hE:Qcn P E){lim:Nat}{cs:List COper}{chk:Option Chk}{fg:List Nat}{st st':St}(hlim:lim≤st.H.length)(h:evalR E lim cs chk fg st=some st'):Ext lim st.H st'.H:=by
 unfold evalR at h
 split at h
 ·split at h
  ·rename_i h1
   simp only[Option.some.injEq]at h;subst h
   have:=Qeo hE cs hlim h1
   exact this
  ·simp at h
 ·split at h
  ·rename_i h1
   split at h
   ·simp only[Option.some.injEq]at h;subst h
    have:=Qeo hE cs hlim (Qa2 cs h1)
    exact this
   ·simp at h
  ·simp at h
theorem Qa4(hE:Qcn P E){L:(St→Option (St ⊕(AExit×St)))→St→Option (AExit×St)}(hL:∀body s r,L body s=some r→∃n,Qas body n s=some r){lim:Nat}:
  ∀(c:CCode) {st:St} {x:AExit} {st':St},lim≤st.H.length→evalC E lim L c st=some (x,st')→Ext lim st.H st'.H
 |.skip,st,x,st',_,h=>by simp only[evalC,Option.some.injEq,Prod.mk.injEq]at h;obtain⟨-,rfl⟩:=h;exact Ext.refl _ _
 |.exit _,st,x,st',_,h=>by simp only[evalC,Option.some.injEq,Prod.mk.injEq]at h;obtain⟨-,rfl⟩:=h;exact Ext.refl _ _
 |.ret,st,x,st',_,h=>by simp only[evalC,Option.some.injEq,Prod.mk.injEq]at h;obtain⟨-,rfl⟩:=h;exact Ext.refl _ _
 |.region _ _ _,st,x,st',hlim,h=>by
  simp only[evalC]at h
  split at h
  ·rename_i h1
   simp only[Option.some.injEq,Prod.mk.injEq]at h;obtain⟨-,rfl⟩:=h
   exact Qne hE hlim h1
  ·simp at h
 |.seq a b,st,x,st',hlim,h=>by
  simp only[evalC]at h
  split at h
  ·rename_i s1 h1
   have:=Qa4 hE hL a hlim h1
   exact this.trans (Qa4 hE hL b (Nat.le_trans hlim this.1) h)
  ·exact Qa4 hE hL a hlim h
 |.cond c a b,st,x,st',hlim,h=>by
  simp only[evalC]at h
  split at h
  ·split at h
   ·exact Qa4 hE hL a hlim h
   ·exact Qa4 hE hL b hlim h
  ·split at h
   ·rename_i s1 s2 h1 h2
    simp only[QiD]at h
    split at h
    ·simp only[Option.some.injEq,Prod.mk.injEq]at h
     obtain⟨-,rfl⟩:=h
     have:=Qa4 hE hL a (x:=s1.1) (st':=s1.2) hlim h1
     exact this
    ·simp at h
   ·simp at h
  ·simp at h
 |.block _ a,st,x,st',hlim,h=>by
  simp only[evalC]at h
  split at h
  ·rename_i h1
   have:=Qa4 hE hL a hlim h1
   split at h<;>(simp only[Option.some.injEq,Prod.mk.injEq]at h;obtain⟨-,rfl⟩:=h;exact this)
  ·exact Qa4 hE hL a hlim h
 |.loop a,st,x,st',hlim,h=>by
  simp only[evalC]at h
  obtain⟨n,hn⟩:=hL _ _ _ h
  clear h
  induction n generalizing st with
  |zero=>simp[Qas]at hn
  |succ n ih=>
   simp only[Qas]at hn
   split at hn
   ·rename_i s1 h1
    split at h1
    ·rename_i s2 h2
     simp only[Option.some.injEq,Sum.inl.injEq]at h1;subst h1
     have:=Qa4 hE hL a hlim h2
     exact this.trans (ih _ (Nat.le_trans hlim this.1) hn)
    ·simp at h1
    ·simp at h1
   ·rename_i r h1
    simp only[Option.some.injEq]at hn;subst hn
    split at h1
    ·simp at h1
    ·rename_i r' hne h2
     simp only[Option.some.injEq,Sum.inr.injEq]at h1;subst h1
     exact Qa4 hE hL a hlim h2
    ·simp at h1
   ·simp at hn
end
end Go.Abs
namespace Go.Abs
open Go.RowKit
variable [Tab] [Dfr]
section
variable {P:Program} {g:Gh} {w:World} {st:St} {a:Act}
def QeW(tmps:Array Value):ResultVar→Sem Value
 |.tmp t=>pure (tmps.getD t undef)
 |.cell c t=>do loadVar t (←asAddr (tmps.getD c undef))
theorem Qk7(fn:Func)(tmps:Array Value):results fn tmps=(do
 let vs←fn.results.mapM (QeW tmps)
 pure (if h:vs.size=1 then vs[0]else .tuple vs)):=rfl
def ResOK(g:Gh)(w:World)(r:ResultVar)(x:AV)(v:Value):Prop:=VR g w x v∧(Triv x v∨∃n,r= .tmp n∧FOK g w (.slot n) x v)
theorem res_list(hinv:Inv g st a w):∀(rs:List ResultVar) (cs:List CRes) (vs:List AV),QaO P rs=some cs→Qbw st.T st.H cs=some vs→
  ∃us:List Value,(rs.mapM (QeW a.tmps)).run P w= .ok us w∧us.length=vs.length∧rs.length=vs.length∧
   ∀(i:Nat) r x v,rs[i]? =some r→vs[i]? =some x→us[i]? =some v→ResOK g w r x v:=by
 intro rs
 induction rs with
 |nil=>
  intro cs vs hc hr
  simp[QaO]at hc;subst hc
  simp[Qbw]at hr;subst hr
  exact⟨[],by simp,rfl,rfl,fun i r x v h=>by simp at h⟩
 |cons r rs ih=>
  intro cs vs hc hr
  have fin:∀ {u:Value} {x:AV} {us:List Value} {xs:List AV},(QeW a.tmps r).run P w= .ok u w→ResOK g w r x u→(rs.mapM (QeW a.tmps)).run P w= .ok us w→us.length=xs.length→rs.length=xs.length→
    (∀(i:Nat) r x v,rs[i]? =some r→xs[i]? =some x→us[i]? =some v→ResOK g w r x v)→
    ∃us:List Value,((r::rs).mapM (QeW a.tmps)).run P w= .ok us w∧us.length=(x::xs).length∧(r::rs).length=(x::xs).length∧
     ∀(i:Nat) r' y v,(r::rs)[i]? =some r'→(x::xs)[i]? =some y→us[i]? =some v→ResOK g w r' y v:=by
   intro u x us xs h1 h2 h3 h4 h4' h5
   refine⟨u::us, ?_,by simp[h4],by simp[h4'],fun i r' y v q0 q1 q2=> ?_⟩
   ·simp only[List.mapM_cons,Sem.run_bind,h1,h3,Result.andThen_ok,Sem.run_pure]
   ·cases i with
    |zero=>simp at q0 q1 q2;subst q0 q1 q2;exact h2
    |succ i=>exact h5 i r' y v (by simpa using q0) (by simpa using q1) (by simpa using q2)
  cases r with
  |tmp t=>
   simp only[QaO,Option.map_eq_some_iff]at hc
   obtain⟨cs',hcs,rfl⟩:=hc
   simp only[Qbw,Option.map_eq_some_iff]at hr
   obtain⟨xs,hxs,rfl⟩:=hr
   obtain⟨us,h1,h2,h3,h4⟩:=ih cs' xs hcs hxs
   obtain⟨q1,q2⟩:=Qby hinv t
   exact fin (by simp[QeW]) ⟨q1,.inr ⟨t,rfl,q2⟩⟩ h1 h2 h3 h4
  |cell c t=>
   simp only[QaO,Option.bind_eq_bind,Option.pure_def,Option.bind_eq_some_iff]at hc
   obtain⟨s,hs,cs',hcs,hc⟩:=hc
   split at hc
   ·rename_i hd
    obtain⟨d,hd⟩:=Option.isSome_iff_exists.1 hd
    simp only[Option.some.injEq]at hc;subst hc
    simp only[Qbw]at hr
    split at hr
    ·rename_i r off hp
     split at hr
     ·rename_i cells hrr
      split at hr
      ·rename_i x xs hx hxs
       simp only[Option.some.injEq]at hr;subst hr
       obtain⟨us,h1,h2,h3,h4⟩:=ih cs' xs hcs hxs
       have q1:=(Qby hinv c).1
       rw[hp]at q1
       have e:=(Qc7 q1).1
       obtain⟨v,p1,p2,p3⟩:=QfS (P:=P) hinv.heap hd hs hrr hx
       refine fin (u:=v) ?_ ⟨p2,.inl p3⟩ h1 h2 h3 h4
       simp only[QeW,e]
       exact p1
      ·simp at hr
     ·simp at hr
    ·simp at hr
   ·simp at hc
theorem Qeq(hinv:Inv g st a w){fn:Func}{cs:List CRes}{vs:List AV}(hc:QaO P fn.results.toList=some cs)(hr:Qbw st.T st.H cs=some vs):
  ∃v,(results fn a.tmps).run P w= .ok v w∧VR g w (QbD vs) v∧(Triv (QbD vs) v∨∃n,FOK g w (.slot n) (QbD vs) v):=by
 obtain⟨us,h1,h2,h3,h4⟩:=res_list hinv _ _ _ hc hr
 have hrun:(fn.results.mapM (QeW a.tmps)).run P w= .ok us.toArray w:=by
  have e:fn.results=fn.results.toList.toArray:=by simp
  rw[e,List.mapM_toArray]
  simp[h1]
 have e2:(results fn a.tmps).run P w= .ok (if h:us.toArray.size=1 then us.toArray[0]else .tuple us.toArray) w:=by
  rw[Qk7]
  simp only[Sem.run_bind,hrun,Result.andThen_ok,Sem.run_pure]
 refine⟨_,e2, ?_⟩
 match vs,h2,h3,h4 with
 | [x],h2,h3,h4=>
   obtain⟨u,rfl⟩:∃u,us= [u]:=by
    match us,h2 with
    | [u],_=>exact⟨u,rfl⟩
   obtain⟨r,hrr⟩:∃r,fn.results.toList= [r]:=by
    match fn.results.toList,h3 with
    | [r],_=>exact⟨r,rfl⟩
   obtain⟨q1,q2⟩:=h4 0 r x u (by rw[hrr];rfl) rfl rfl
   exact⟨q1,q2.imp id fun⟨n,_,hf⟩=>⟨n,hf⟩⟩
 | [],h2,h3,h4=>
   have:us= []:=List.eq_nil_of_length_eq_zero h2
   subst this
   exact⟨.tuple _ _ rfl (fun i c v h=>by simp at h) (fun i c v h=>by simp at h),.inl (fun xs e=>by simp[QbD]at e)⟩
 |x::y::zs,h2,h3,h4=>
  have hne:¬us.toArray.size=1:=by simp at h2⊢;omega
  rw[dif_neg hne]
  have hv:∀(i:Nat) c v,((x::y::zs).map AV.unf)[i]? =some c→us.toArray[i]? =some v→VR g w c v:=by
   intro i c v hc hv
   simp only[List.getElem?_map,Option.map_eq_some_iff]at hc
   obtain⟨c',hc',rfl⟩:=hc
   have hi:i<fn.results.toList.length:=by rw[h3];exact(List.getElem?_eq_some_iff.1 hc').1
   exact(h4 i _ c' v (List.getElem?_eq_getElem hi) hc' (by simpa using hv)).1.unf
  exact⟨.tuple _ _ (by simp at h2⊢;omega) hv (fun i c v hc _=>by
   simp only[List.getElem?_map,Option.map_eq_some_iff]at hc
   obtain⟨c',hc',rfl⟩:=hc
   exact Triv.unf _ _),.inl (fun xs e=>by simp[QbD]at e)⟩
end
end Go.Abs
namespace Go.Abs
open Go.RowKit
variable [Tab]
section
variable {P:Program} {E:Qa0} {tk:FuncId→Nat→Bool}
theorem QcC{g:Gh}{H:Qab}{w:World}(hH:HeapOK g H w)(hn:∀b,g.own b≠ .res){args:List AV}{vals:Array Value}(hl:args.length=vals.size)
  (hv:∀(i:Nat) x v,args[i]? =some x→vals[i]? =some v→VR g w x v∧FOK g w (.slot i) x v)(n:Nat):
  Inv g ⟨args++List.replicate (n-args.length) (.tuple []),H⟩ { tmps:=vals++Array.replicate (n-vals.size) undef,defers:= [] } w where
 heap:=hH
 size:=by simp[hl]
 tok i x v hx hv':=by
  simp only at hx hv'
  rcases Nat.lt_or_ge i args.length with hi|hi
  ·rw[List.getElem?_append_left hi]at hx
   rw[Array.getElem?_append_left (by rw[←hl];exact hi)]at hv'
   obtain⟨h1,h2⟩:=hv i x v hx hv'
   exact⟨h1,h2⟩
  ·rw[List.getElem?_append_right hi]at hx
   rw[Array.getElem?_append_right (by rw[←hl];exact hi)]at hv'
   have e1:x= .tuple []:=(List.mem_replicate.1 (List.mem_of_getElem? hx)).2
   have e2:v=undef:=by
    obtain⟨hlt,e⟩:=Array.getElem?_eq_some_iff.1 hv'
    rw[←e];simp
   subst e1;subst e2
   exact⟨.tuple [] #[] rfl (fun i c v h=>by simp at h) (fun i c v h=>by simp at h),FOK.ne (by simp)⟩
 nores:=hn
 defers:=rfl
structure Compiled (P:Program) (tk:FuncId→Nat→Bool) (kp:List Nat) (f:FuncId) (c:CFn) (fn:Func) (body:Code):Prop where
 func:P.funcs[f]? =some fn
 hbody:fn.body=some body
 name:(fn.name== "runtime.NumGoroutine")=false
 code:Qac P tk kp body=some c.body
 res:QaO P fn.results.toList=some c.res
 nt:c.ntmps=fn.ntmps
theorem Qct{keep:Bool}{kp:List Nat}{f:FuncId}{c:CFn}(h:Qaa P tk keep kp f=some c):∃fn body,Compiled P tk kp f c fn body:=by
 simp only[Qaa,Option.bind_eq_bind,Option.pure_def,Option.bind_eq_some_iff]at h
 obtain⟨fn,h1,body,h2,cc,h3,rs,h4,h⟩:=h
 split at h
 ·simp at h
 ·rename_i hn
  simp only[Option.some.injEq]at h;subst h
  exact⟨fn,body,h1,h2,by simpa using hn,h3,h4,rfl⟩
theorem Qhb(hE:Qcn P E)(hD:Qgw P tk E){L:(St→Option (St ⊕(AExit×St)))→St→Option (AExit×St)}(hL:∀body s r,L body s=some r→∃n,Qas body n s=some r)
  {kp:List Nat}{f:FuncId}{c:CFn}{fn:Func}{body:Code}(hc:Compiled P tk kp f c fn body){g:Gh}{H:Qab}{w:World}(hH:HeapOK g H w)(hn:∀b,g.own b≠ .res){args:List AV}{vals:Array Value}(hl:args.length=vals.size)
  (hv:∀(i:Nat) x v,args[i]? =some x→vals[i]? =some v→VR g w x v∧FOK g w (.slot i) x v){lim:Nat}(hlim:lim≤H.length){x:AExit}{st:St}(hx:∀id,x≠ .exit id)
  (he:evalC E lim L c.body ⟨args++List.replicate (c.ntmps-args.length) (.tuple []),H⟩=some (x,st)){vs:List AV}(hr:Qbw st.T st.H c.res=some vs){R:Ending→World→Prop}
  (hR:∀g' w' v,WF g w g' w'→HeapOK g' st.H w'→VR g' w' (QbD vs) v→FOK g' w' .res (QbD vs) v→R (.returned v) w'):Calls P f vals w R:=by
 refine calls_of_wp hc.func hc.hbody ?_
 rw[←hc.nt]
 refine Qao hE hD hL body c.body hc.code (QcC hH hn hl hv c.ntmps) hlim he fun g' a' w' hw hi _=> ?_
 obtain⟨v,h1,h2,h3⟩:=Qeq hi hc.res hr
 have fin:a'.defers= []∧∃v,(results fn a'.tmps).run P w'= .ok v w'∧R (.returned v) w':=by
  refine⟨hi.defers,v,h1, ?_⟩
  rcases h3 with h3|⟨n,h3⟩
  ·exact hR g' w' v hw hi.heap h2 (FOK.triv h3)
  ·obtain⟨g2,hok⟩:=OpOK.pass (cons:= [n]) hi.heap h2 (.inr ⟨n,by simp,h3⟩)
   exact hR g2 w' v (hw.trans hok.wf) hok.heap hok.vr hok.fok
 cases x with
 |normal=>exact fin
 |exit id=>exact absurd rfl (hx id)
 |ret=>exact fin
theorem Qge{L:(St→Option (St ⊕(AExit×St)))→St→Option (AExit×St)}{c:CFn}{lim:Nat}{args:List AV}{H H':Qab}{a:AV}(h:Qfb E L c lim args H=some (a,H')):
  ∃x st vs,(∀id,x≠AExit.exit id)∧evalC E (if c.keep then lim else H.length) L c.body ⟨args++List.replicate (c.ntmps-args.length) (.tuple []),H⟩=some (x,st)∧Qbw st.T st.H c.res=some vs∧
   if c.keep then a=QbD vs∧H'=st.H else freeze st.H H.length (QbD vs)=some a∧H'=H:=by
 unfold Qfb at h
 split at h
 ·split at h
  ·simp at h
  ·rename_i x st hne he
   split at h
   ·rename_i vs hvs
    refine⟨x,st,vs,fun id e=> ?_,he,hvs, ?_⟩
    ·subst e;exact hne id rfl
    ·split at h
     ·rename_i hk
      rw[if_pos hk]
      simp only[Option.some.injEq,Prod.mk.injEq]at h
      exact⟨h.1.symm,h.2.symm⟩
     ·rename_i hk
      rw[if_neg hk]
      simp only[Option.map_eq_some_iff,Prod.mk.injEq]at h
      obtain⟨y,h1,rfl,rfl⟩:=h
      exact⟨h1,rfl⟩
   ·simp at h
  ·simp at h
 ·simp at h
theorem Qlm(hE:Qcn P E)(hD:Qgw P tk E){L:(St→Option (St ⊕(AExit×St)))→St→Option (AExit×St)}(hL:∀body s r,L body s=some r→∃n,Qas body n s=some r)
  {keep:Bool}{kp:List Nat}{f:FuncId}{c:CFn}(hc:Qaa P tk keep kp f=some c)(hk:c.keep=true):FSoundC P f (Qfb E L c):=by
 intro lim args H a H' h hlim
 obtain⟨fn,body,hcc⟩:=Qct hc
 obtain⟨x,st,vs,hx,he,hr,hfin⟩:=Qge h
 rw[hk,if_pos rfl]at he
 rw[hk,if_pos rfl]at hfin
 obtain⟨rfl,rfl⟩:=hfin
 refine⟨⟨fn,hcc.func,by rw[hcc.hbody];rfl,hcc.name⟩,Qa4 hE hL c.body (st:=⟨_,H⟩) hlim he, ?_⟩
 intro vals g w hH hn hl hv
 exact Qhb hE hD hL hcc hH hn hl hv hlim hx he hr fun g' w' v h1 h2 h3 h4=>⟨v,g',rfl,h1,h2,h3,h4⟩
end
end Go.Abs
namespace Go.Abs
open Go.RowKit
variable [Tab]
inductive Scoped (n:Nat):AV→Prop where
 |undef:Scoped n .undef
 |d (x:D):Scoped n (.d x)
 |fsl (xs:List D):Scoped n (.fslice xs)
 |lit (xs:List D):Scoped n (.lit xs)
 |ptr (r off:Nat) (h:r<n):Scoped n (.ptr r off)
 |pref (cs:List D):Scoped n (.pref cs)
 |osl (r off len cap sz:Nat) (h:r<n):Scoped n (.oslice r off len cap sz)
 |agg (cs:List AV) (h:∀(i:Nat) c,cs[i]? =some c→Scoped n c):Scoped n (.agg cs)
 |tuple (cs:List AV) (h:∀(i:Nat) c,cs[i]? =some c→Scoped n c):Scoped n (.tuple cs)
 |mapr (r:Nat) (h:r<n):Scoped n (.mapr r)
 |nilmap:Scoped n .nilmap
 |func (fn:Fn) (cs:List AV) (h:∀(i:Nat) c,cs[i]? =some c→Scoped n c):Scoped n (.func fn cs)
 |nilfunc:Scoped n .nilfunc
 |iface (t:TypeId) (a:AV) (h:Scoped n a):Scoped n (.iface t a)
 |niliface:Scoped n .niliface
 |ubool:Scoped n .ubool
theorem Qeg{α β:Type}{xs:List α}{vs:Array β}(h:xs.length=vs.size){i:Nat}{x:α}(hx:xs[i]? =some x):∃v,vs[i]? =some v:=by
 have:=(List.getElem?_eq_some_iff.1 hx).1
 exact⟨_,Array.getElem?_eq_getElem (by omega)⟩
theorem VR.scpd{g:Gh}{w:World}{a:AV}{v:Value}(h:VR g w a v):Scoped g.n a:=by
 induction h with
 |undef v=>exact .undef
 |d x v h=>exact .d x
 |fsl xs v h=>exact .fsl xs
 |lit xs b n c h ho=>exact .lit xs
 |ptr r off h=>exact .ptr r off h
 |pref cs b off vs hf hc h=>exact .pref cs
 |osl r off len cap cap' sz h hc hc' hz=>exact .osl r off len cap sz h
 |agg cs vs hl hf h ht ih=>exact .agg cs fun i c hc=>by obtain⟨v,hv⟩:=Qeg hl hc;exact ih i c v hc hv
 |tuple cs vs hl h ht ih=>exact .tuple cs fun i c hc=>by obtain⟨v,hv⟩:=Qeg hl hc;exact ih i c v hc hv
 |mapr r h=>exact .mapr r h
 |nilmap=>exact .nilmap
 |func fn cs vs hl h ht ih=>exact .func fn cs fun i c hc=>by obtain⟨v,hv⟩:=Qeg hl hc;exact ih i c v hc hv
 |nilfunc=>exact .nilfunc
 |iface t a v h ht ih=>exact .iface t a ih
 |niliface=>exact .niliface
 |ubool b=>exact .ubool
def Qcj(w:World)(b:Nat):Nat:=match w.heap[b]? with
 |some (.cells vs _ _)=>vs.size
 |_=>0
def Own.cut(base:Nat):Own→Own
 |.obj r=>if base≤r then .mine else .obj r
 |.cell r j=>if base≤r then .mine else .cell r j
 |o=>o
def Own.past(base:Nat):Own→Bool
 |.obj r=>decide (base≤r)
 |_=>false
def Gh.cut(g:Gh)(w:World)(base:Nat):Gh:=
 { g with own:=fun b=>(g.own b).cut base,bd:=fun b=>if(g.own b).past base then max (g.bd b) (Qcj w b)else g.bd b,n:=base }
section
variable {g:Gh} {w:World} {base:Nat}
theorem QkN(b:Nat):g.bd b≤(g.cut w base).bd b:=by
 simp only[Gh.cut];split
 ·exact Nat.le_max_left _ _
 ·exact Nat.le_refl _
theorem QcF{b:Nat}(h:∀r,g.own b= .obj r→r<base):(g.cut w base).bd b=g.bd b:=by
 simp only[Gh.cut]
 rw[if_neg]
 intro hp
 cases e:g.own b with
 |obj r=>rw[e]at hp;simp[Own.past]at hp;have:=h r e;omega
 |_=>rw[e]at hp;simp[Own.past]at hp
theorem Qbf(b i:Nat)(h:i<g.bd b):i<(g.cut w base).bd b∧QaL w b i=QaL w b i:=⟨Nat.lt_of_lt_of_le h (QkN b),rfl⟩
theorem QkM{b:Nat}(h:g.own b= .mine):(g.cut w base).own b= .mine:=by simp[Gh.cut,h,Own.cut]
theorem VR.cut{a:AV}{v:Value}(h:VR g w a v)(hs:Scoped base a):VR (g.cut w base) w a v:=by
 induction h with
 |undef v=>exact .undef v
 |d x v h=>exact .d x v (h.mono Qbf)
 |fsl xs v h=>exact .fsl xs v (h.mono Qbf)
 |lit xs b n c h ho=>exact .lit xs b n c (h.mono Qbf) (QkM ho)
 |ptr r off h=>cases hs with|ptr _ _ hr=>exact VR.ptr (g:=g.cut w base) r off hr
 |pref cs b off vs hf hc h=>
  exact .pref cs b off vs hf (fun k hk=>⟨Nat.lt_of_lt_of_le (hc k hk).1 (QkN b),(hc k hk).2⟩) (fun k c hk=>(h k c hk).mono Qbf)
 |osl r off len cap cap' sz h hc hc' hz=>cases hs with|osl _ _ _ _ _ hr=>exact VR.osl (g:=g.cut w base) r off len cap cap' sz hr hc hc' hz
 |agg cs vs hl hf h ht ih=>cases hs with|agg _ hs=>exact .agg cs vs hl hf (fun i c v hc hv=>ih i c v hc hv (hs i c hc)) ht
 |tuple cs vs hl h ht ih=>cases hs with|tuple _ hs=>exact .tuple cs vs hl (fun i c v hc hv=>ih i c v hc hv (hs i c hc)) ht
 |mapr r h=>cases hs with|mapr _ hr=>exact VR.mapr (g:=g.cut w base) r hr
 |nilmap=>exact .nilmap
 |func fn cs vs hl h ht ih=>cases hs with|func _ _ hs=>exact .func fn cs vs hl (fun i c v hc hv=>ih i c v hc hv (hs i c hc)) ht
 |nilfunc=>exact .nilfunc
 |iface t a v h ht ih=>cases hs with|iface _ _ hs=>exact .iface t a v (ih hs) ht
 |niliface=>exact .niliface
 |ubool b=>exact .ubool b
theorem FOK.cut{loc:Own}{a:AV}{v:Value}(hl:loc.cut base=loc)(ho:∀r,loc≠ .obj r)(h:FOK g w loc a v):FOK (g.cut w base) w loc a v:=by
 refine FOK.keep (g:=g) (g':=g.cut w base) (h:=h) fun b hb=>⟨?_,QcF fun r hr=> ?_,fun cs e fr hh hz=>⟨cs,fr,hh,rfl,hz⟩⟩
 ·show(g.own b).cut base=loc
  rw[hb];exact hl
 ·rw[hb]at hr;exact absurd hr (ho r)
theorem OR.cut{r:Nat}{o:AObj}(hr:r<base){g0:Gh}{w0:World}(h0:OR g0 w0 r o)(hn:g0.n=base)(h:OR g w r o):OR (g.cut w base) w r o:=by
 subst hn
 cases o with
 |cells cs=>
  obtain⟨vs0,e0,fr0,a1,a2,a3,a4,a5⟩:=h0
  obtain⟨vs,e,fr,h1,h2,h3,h4,h5⟩:=h
  refine⟨vs,e,fr,h1,h2,h3,h4,fun j c v hj hv=> ?_⟩
  obtain⟨v0,hv0⟩:∃v,vs0[j]? =some v:=⟨_,Array.getElem?_eq_getElem (by have:=(List.getElem?_eq_some_iff.1 hj).1;omega)⟩
  obtain⟨q1,q2⟩:=h5 j c v hj hv
  exact⟨q1.cut (a5 j c v0 hj hv0).1.scpd,q2.cut (by simp only[Own.cut];rw[if_neg (by omega)]) (by simp)⟩
 |map kk es=>
  obtain⟨ms0,clk0,a1,a2,a3⟩:=h0
  obtain⟨ms,clk,h1,h2,h3⟩:=h
  refine⟨ms,clk,h1,h2,fun i k a m hi hm=> ?_⟩
  obtain⟨m0,hm0⟩:=Qeg a2.symm hi
  obtain⟨q1,q2,q3,q4⟩:=h3 i k a m hi hm
  exact⟨q1.mono Qbf,q2,q3.cut (a3 i k a m0 hi hm0).2.2.1.scpd,q4⟩
 |siter s pos=>
  obtain⟨s',h1,h2⟩:=h
  exact⟨s',h1,h2⟩
 |dead=>trivial
theorem Qj1{g0:Gh}{w0:World}(hw:WF g0 w0 g w)(hn:g0.n=base):WF g0 w0 (g.cut w base) w where
 os:=hw.os
 tape:=hw.tape
 output:=hw.output
 size:=hw.size
 idle b hb ho:=by
  obtain⟨h1,h2,h3⟩:=hw.idle b hb ho
  refine⟨h1, ?_, ?_⟩
  ·show(g.own b).cut base=g0.own b
   rw[h2];rcases ho with h|h<;>rw[h]<;>rfl
  ·rw[QcF fun r hr=>by rw[h2]at hr;rcases ho with h|h<;>rw[h]at hr<;>cases hr];exact h3
 stays b i hi:=by obtain⟨h1,h2⟩:=hw.stays b i hi;exact⟨Nat.lt_of_lt_of_le h1 (QkN b),h2⟩
 n:=by rw[hn];exact Nat.le_refl _
 rho r hr:=hw.rho r hr
 out b hb:=by
  refine hw.out b ?_
  have hb:(g.own b).cut base= .out:=hb
  cases e:g.own b<;>rw[e]at hb<;>simp only[Own.cut]at hb<;>first|(split at hb<;>cases hb)|cases hb|rfl
 mine b hb:=QkM (hw.mine b hb)
 rm r hr:=hw.rm r hr
theorem QkC{g0:Gh}{w0:World}{H0 H:Qab}(h0:HeapOK g0 H0 w0)(h:HeapOK g H w)(hx:Ext H0.length H0 H):HeapOK (g.cut w H0.length) H0 w where
 n:=rfl
 own r hr ha:=by
  have hr':r<H0.length:=hr
  obtain⟨h1,h2⟩:=h.own r (by rw[h.n];exact Nat.lt_of_lt_of_le hr' hx.1) (by
   unfold Qco at ha⊢
   have e1:(H.take H0.length)[r]? =(H0.take H0.length)[r]? :=by rw[hx.2]
   rw[List.getElem?_take,List.getElem?_take,if_pos hr',if_pos hr']at e1
   rwa [e1])
  constructor
  ·show(g.own (g.rho r)).cut H0.length= .obj r
   rw[h1];simp only[Own.cut];rw[if_neg (by omega)]
  ·exact(QcF (b:=g.rho r) fun s hs=>by rw[h1]at hs;injection hs with hs;omega).trans h2
 obj r o ho:=by
  have hr:r<H0.length:=(List.getElem?_eq_some_iff.1 ho).1
  have ho':H[r]? =some o:=by
   have e:(H.take H0.length)[r]? =H0[r]? :=by rw[hx.2,List.take_length]
   rw[List.getElem?_take_of_lt hr]at e
   rw[e];exact ho
  exact OR.cut hr (h0.obj r o ho) h0.n (h.obj r o ho')
 new b hb:=by
  obtain⟨h1,h2⟩:=h.new b hb
  refine⟨?_, ?_⟩
  ·show(g.own b).cut H0.length= .free
   rw[h1];rfl
  ·rw[QcF fun r hr=>by rw[h1]at hr;cases hr];exact h2
 glob n cs hn:=(h.glob n cs hn).cut (.pref cs)
theorem Qdh{H:Qab}:∀ {cs ys:List AV},QeE H base cs=some ys→ys.length=cs.length∧∀(i:Nat) c,cs[i]? =some c→∃z,freeze H base c=some z∧ys[i]? =some z.unf
 | [],ys,h=>by simp[QeE]at h;subst h;simp
 |c::cs,ys,h=>by
  simp only[QeE]at h
  split at h
  ·rename_i x xs hx hxs
   simp only[Option.some.injEq]at h;subst h
   obtain⟨h1,h2⟩:=Qdh hxs
   refine⟨by simp[h1],fun i d hd=> ?_⟩
   cases i with
   |zero=>simp at hd;subst hd;exact⟨x,hx,rfl⟩
   |succ i=>simpa using h2 i d (by simpa using hd)
  ·simp at h
theorem QjG{H:Qab}{a y:AV}(h:freeze H base a=some y)(ha:a.isCell=true):y.isCell=true:=by
 cases a<;>simp only[freeze]at h<;>first
  |(simp[AV.isCell]at ha;done)
  |(simp only[Option.some.injEq]at h;subst h;first|exact ha|rfl)
  |(simp at h;done)
  |skip
 ·split at h
  ·split at h
   ·split at h
    ·simp only[Option.map_eq_some_iff]at h;obtain⟨_,_,rfl⟩:=h;rfl
    ·simp at h
   ·simp at h
  ·simp at h
 ·simp only[Option.map_eq_some_iff]at h;obtain⟨_,_,rfl⟩:=h;rfl
theorem Qg4{H:Qab}{a:AV}{xs:List D}(h:freeze H base a=some (.fslice xs)):a= .fslice xs:=by
 cases a<;>simp only[freeze]at h<;>first
  |(simp at h;done)
  |(simp only[Option.some.injEq]at h;exact h)
  |(simp only[Option.map_eq_some_iff]at h;obtain⟨_,_,h⟩:=h;cases h)
  |skip
 ·split at h
  ·split at h
   ·split at h
    ·simp only[Option.map_eq_some_iff]at h;obtain⟨_,_,h⟩:=h;cases h
    ·simp at h
   ·simp at h
  ·simp at h
 ·split at h
  ·simp only[Option.some.injEq,AV.mkAgg]at h
   split at h<;>cases h
  ·simp at h
theorem Qf9{H:Qab}(hH:HeapOK g H w){a:AV}{v:Value}(h:VR g w a v):∀ {y:AV},freeze H base a=some y→VR (g.cut w base) w y v:=by
 induction h with
 |undef v=>intro y hy;simp only[freeze,Option.some.injEq]at hy;subst hy;exact .undef v
 |d x v h=>intro y hy;simp only[freeze,Option.some.injEq]at hy;subst hy;exact .d x v (h.mono Qbf)
 |fsl xs v h=>intro y hy;simp only[freeze,Option.some.injEq]at hy;subst hy;exact .fsl xs v (h.mono Qbf)
 |lit xs b n c h ho=>intro y hy;simp only[freeze,Option.some.injEq]at hy;subst hy;exact .d _ _ (h.mono Qbf)
 |ptr r off h=>intro y hy;simp[freeze]at hy
 |pref cs b off vs hf hc h=>
  intro y hy;simp only[freeze,Option.some.injEq]at hy;subst hy
  exact .pref cs b off vs hf (fun k hk=>⟨Nat.lt_of_lt_of_le (hc k hk).1 (QkN b),(hc k hk).2⟩) (fun k c hk=>(h k c hk).mono Qbf)
 |osl r off len cap cap' sz hr hcap0 hcap0' hroom=>
  have hcap:len≤cap':=Nat.le_trans hcap0 hcap0'
  intro y hy
  simp only[freeze]at hy
  split at hy
  ·rename_i hb
   split at hy
   ·rename_i cs hcs
    split at hy
    ·rename_i hle
     simp only[Option.map_eq_some_iff]at hy
     obtain⟨xs,hxs,rfl⟩:=hy
     obtain⟨vs,e,fr,h1,h2,hcl⟩:=Qmx (hH.get hcs).2
     have hd:=hcl.sub off cs.length
     rw[List.take_of_length_le (by simp),List.take_of_length_le (by simp;omega)]at hd
     rw[←List.map_drop]at hd
     have hxs':chunks sz (sz !=1) len ((cs.drop off).map AV.unf)=some xs:=by rw[QeM];exact hxs
     obtain⟨b1,b2,b3,b4⟩:=Qed len _ _ xs hd (by simp;omega) hxs'
     have ho:=(hH.own r hr (Qck hcs (by simp))).1
     refine .d _ _ (.slice xs _ off len cap' sz (fun k=>vs.getD (off+k) undef) b1.symm hcap b2 b3 (fun k hk=> ?_) (fun i j x c hx hc=> ?_))
     ·rw[b1]at hk
      have hlt:off+k<vs.size:=by omega
      constructor
      ·have:(g.cut w base).bd (g.rho r)=max (g.bd (g.rho r)) (Qcj w (g.rho r)):=by
        simp only[Gh.cut];rw[if_pos (by rw[ho];simp[Own.past,hb.1])]
       rw[this]
       have hbs:Qcj w (g.rho r)=vs.size:=by simp[Qcj,h1]
       rw[hbs]
       exact Nat.lt_of_lt_of_le hlt (Nat.le_max_right _ _)
      ·unfold QaL
       rw[Qax h1]
       simp[Array.getD,hlt]
     ·obtain⟨u,hu,hdu⟩:=b4 i j x c hx hc
      have hu':vs[off+(i*sz+j)]? =some u:=by
       rw[List.getElem?_drop,List.getElem?_take]at hu
       split at hu
       ·simpa using hu
       ·cases hu
      obtain⟨p1,p2⟩:=Array.getElem?_eq_some_iff.1 hu'
      have:vs.getD (off+(i*sz+j)) undef=u:=by simp[Array.getD,p1,p2]
      show DR _ _ _ (vs.getD (off+(i*sz+j)) undef)
      rw[this]
      exact hdu.mono Qbf
    ·simp at hy
   ·simp at hy
  ·simp at hy
 |agg cs vs hl hf h ht ih=>
  intro y hy
  simp only[freeze]at hy
  split at hy
  ·rename_i ys hys
   simp only[Option.some.injEq]at hy;subst hy
   obtain⟨h1,h2⟩:=Qdh hys
   refine(Qd3 (CL.mk (g:=g.cut w base) (w:=w) (by simp[h1,hl]) (fun c hc=> ?_) (fun i c v hc hv=> ?_))).1
   ·obtain⟨i,hi⟩:=List.mem_iff_getElem?.1 hc
    have hlt:i<cs.length:=by rw[←h1];exact(List.getElem?_eq_some_iff.1 hi).1
    obtain⟨z,hz,hz2⟩:=h2 i cs[i] (List.getElem?_eq_getElem hlt)
    rw[hz2]at hi;injection hi with hi;subst hi
    exact Qdu (QjG hz (hf _ (List.getElem_mem hlt)))
   ·have hlt:i<cs.length:=by rw[←h1];exact(List.getElem?_eq_some_iff.1 hc).1
    obtain⟨z,hz,hz2⟩:=h2 i cs[i] (List.getElem?_eq_getElem hlt)
    rw[hz2]at hc;injection hc with hc;subst hc
    exact⟨(ih i cs[i] v (List.getElem?_eq_getElem hlt) (by simpa using hv) hz).unf,Triv.unf _ _⟩
  ·simp at hy
 |tuple cs vs hl h ht ih=>
  intro y hy
  simp only[freeze,Option.map_eq_some_iff]at hy
  obtain⟨ys,hys,rfl⟩:=hy
  obtain⟨h1,h2⟩:=Qdh hys
  have key:∀(i:Nat) c v,ys[i]? =some c→vs[i]? =some v→VR (g.cut w base) w c v∧Triv c v:=fun i c v hc hv=>by
   have hlt:i<cs.length:=by rw[←h1];exact(List.getElem?_eq_some_iff.1 hc).1
   obtain⟨z,hz,hz2⟩:=h2 i cs[i] (List.getElem?_eq_getElem hlt)
   rw[hz2]at hc;injection hc with hc;subst hc
   exact⟨(ih i cs[i] v (List.getElem?_eq_getElem hlt) hv hz).unf,Triv.unf _ _⟩
  exact .tuple ys vs (h1.trans hl) (fun i c v hc hv=>(key i c v hc hv).1) (fun i c v hc hv=>(key i c v hc hv).2)
 |mapr r h=>intro y hy;simp[freeze]at hy
 |nilmap=>intro y hy;simp only[freeze,Option.some.injEq]at hy;subst hy;exact .nilmap
 |func fn cs vs hl h ht ih=>intro y hy;simp[freeze]at hy
 |nilfunc=>intro y hy;simp only[freeze,Option.some.injEq]at hy;subst hy;exact .nilfunc
 |iface t a v h ht ih=>
  intro y hy
  simp only[freeze,Option.map_eq_some_iff]at hy
  obtain⟨z,hz,rfl⟩:=hy
  exact .iface t _ v (ih hz).unf (Triv.unf _ _)
 |niliface=>intro y hy;simp only[freeze,Option.some.injEq]at hy;subst hy;exact .niliface
 |ubool b=>intro y hy;simp[freeze]at hy
end
section
variable {P:Program} {E:Qa0} {tk:FuncId→Nat→Bool}
theorem QkG(hE:Qcn P E)(hD:Qgw P tk E){L:(St→Option (St ⊕(AExit×St)))→St→Option (AExit×St)}(hL:∀body s r,L body s=some r→∃n,Qas body n s=some r)
  {keep:Bool}{kp:List Nat}{f:FuncId}{c:CFn}(hc:Qaa P tk keep kp f=some c):FSoundC P f (Qfb E L c):=by
 cases hk:c.keep with
 |true=>exact Qlm hE hD hL hc hk
 |false=>
  intro lim args H a H' h hlim
  obtain⟨fn,body,hcc⟩:=Qct hc
  obtain⟨x,st,vs,hx,he,hr,hfin⟩:=Qge h
  rw[hk,if_neg (by simp)]at he
  rw[hk,if_neg (by simp)]at hfin
  obtain⟨hz,hHH⟩:=hfin
  subst hHH
  refine⟨⟨fn,hcc.func,by rw[hcc.hbody];rfl,hcc.name⟩,Ext.refl _ _, ?_⟩
  intro vals g w hH hn hl hv
  have hext:=Qa4 hE hL c.body (st:=⟨_,H'⟩) (Nat.le_refl _) he
  refine Qhb hE hD hL hcc hH hn hl hv (Nat.le_refl _) hx he hr fun g' w' v h1 h2 h3 h4=> ?_
  refine⟨v,g'.cut w' H'.length,rfl,Qj1 h1 hH.n,QkC hH h2 hext,Qf9 h2 h3 hz,fun xs e=> ?_⟩
  subst e
  have e:=Qg4 hz
  rw[e]at h4
  exact FOK.cut (loc:= .res) rfl (by simp) h4 xs rfl
end
mutual
theorem scB_ok{n:Nat}:∀(a:AV),scB n a=true→Scoped n a
 |.ptr r off,h=> .ptr r off (by simpa[scB]using h)
 |.oslice r off len cap sz,h=> .osl r off len cap sz (by simpa[scB]using h)
 |.mapr r,h=> .mapr r (by simpa[scB]using h)
 |.agg cs,h=> .agg cs (Qen cs (by simpa only[scB]using h))
 |.tuple cs,h=> .tuple cs (Qen cs (by simpa only[scB]using h))
 |.func fn cs,h=> .func fn cs (Qen cs (by simpa only[scB]using h))
 |.iface t a,h=> .iface t a (scB_ok a (by simpa only[scB]using h))
 |.undef,_=> .undef
 |.d x,_=> .d x
 |.fslice xs,_=> .fsl xs
 |.lit xs,_=> .lit xs
 |.pref cs,_=> .pref cs
 |.nilmap,_=> .nilmap
 |.nilfunc,_=> .nilfunc
 |.niliface,_=> .niliface
 |.ubool,_=> .ubool
theorem Qen{n:Nat}:∀(cs:List AV),scBs n cs=true→∀(i:Nat) c,cs[i]? =some c→Scoped n c
 | [],_,i,c,h=>by simp at h
 |a::as,h,i,c,hc=>by
  simp only[scBs,Bool.and_eq_true]at h
  cases i with
  |zero=>
   rw[List.getElem?_cons_zero]at hc
   obtain rfl:=Option.some.inj hc
   exact scB_ok a h.1
  |succ i=>exact Qen as h.2 i c (by simpa using hc)
end
section
variable {g:Gh} {w:World} {base:Nat}
theorem OR.cut2{r:Nat}{o:AObj}(hr:r<base)(hs:scO base o=true)(h:OR g w r o):OR (g.cut w base) w r o:=by
 cases o with
 |cells cs=>
  obtain⟨vs,e,fr,h1,h2,h3,h4,h5⟩:=h
  refine⟨vs,e,fr,h1,h2,h3,h4,fun j c v hj hv=> ?_⟩
  obtain⟨q1,q2⟩:=h5 j c v hj hv
  exact⟨q1.cut (Qen cs (by simpa only[scO]using hs) j c hj),q2.cut (by simp only[Own.cut];rw[if_neg (by omega)]) (by simp)⟩
 |map kk es=>
  obtain⟨ms,clk,h1,h2,h3⟩:=h
  refine⟨ms,clk,h1,h2,fun i k a m hi hm=> ?_⟩
  obtain⟨q1,q2,q3,q4⟩:=h3 i k a m hi hm
  exact⟨q1.mono Qbf,q2,q3.cut (Qen _ (by simpa only[scO]using hs) i a (by rw[List.getElem?_map,hi];rfl)),q4⟩
 |siter s pos=>
  obtain⟨s',h1,h2⟩:=h
  exact⟨s',h1,h2⟩
 |dead=>trivial
theorem QiH{g0:Gh}{w0:World}{H0 H:Qab}(h0:HeapOK g0 H0 w0)(h:HeapOK g H w){r:Nat}{o:AObj}(hr:r<H0.length)(ho:H[r]? =some o)(hs:scO H0.length o=true)(ht:H.take H0.length=H0.set r o):HeapOK (g.cut w H0.length) (H0.set r o) w where
 n:=by show H0.length=_;rw[List.length_set]
 own q hq ha:=by
  have hq':q<H0.length:=hq
  have e:H[q]? =(H0.set r o)[q]? :=by rw[←ht,List.getElem?_take_of_lt hq']
  obtain⟨h1,h2⟩:=h.own q (by
   rw[h.n]
   have:q<(H0.set r o).length:=by rw[List.length_set];exact hq'
   rw[List.getElem?_eq_getElem this]at e
   exact(List.getElem?_eq_some_iff.1 e).1) (by unfold Qco at ha⊢;rw[e];exact ha)
  constructor
  ·show(g.own (g.rho q)).cut H0.length= .obj q
   rw[h1];simp only[Own.cut];rw[if_neg (by omega)]
  ·exact(QcF (b:=g.rho q) fun s hs=>by rw[h1]at hs;injection hs with hs;omega).trans h2
 obj q x hx:=by
  have hq:q<H0.length:=by have:=(List.getElem?_eq_some_iff.1 hx).1;rwa [List.length_set]at this
  have e:H[q]? =some x:=by rw[←hx,←ht,List.getElem?_take_of_lt hq]
  by_cases hqr:q=r
  ·subst hqr
   rw[ho]at e;injection e with e;subst e
   exact OR.cut2 hq hs (h.obj q o ho)
  ·rw[List.getElem?_set_ne (Ne.symm hqr)]at hx
   exact OR.cut hq (h0.obj q x hx) h0.n (h.obj q x e)
 new b hb:=by
  obtain⟨h1,h2⟩:=h.new b hb
  refine⟨?_, ?_⟩
  ·show(g.own b).cut H0.length= .free
   rw[h1];rfl
  ·rw[QcF fun r hr=>by rw[h1]at hr;cases hr];exact h2
 glob n cs hn:=(h.glob n cs hn).cut (.pref cs)
end
theorem Qnn{P:Program}{f:FuncId}{F:Qba}(hF:FSoundC P f F):FSoundC P f (cutF F):=by
 intro lim args H a H' h hlim
 unfold cutF at h
 split at h
 ·rename_i v H1 r as h1
  split at h
  ·rename_i o v' ho hz
   split at h
   ·rename_i hc
    obtain⟨hr,hs,hb⟩:=hc
    simp only[Option.some.injEq,Prod.mk.injEq]at h
    obtain⟨rfl,rfl⟩:=h
    have ht:=Qb4 hb
    obtain⟨q1,q2,q3⟩:=hF lim _ H v H1 h1 hlim
    refine⟨q1,⟨by simp, ?_⟩,fun vals g w hH hn hl hv=> ?_⟩
    ·rw[←ht,List.take_take,Nat.min_eq_left hlim];exact q2.2
    ·refine Calls.mono (q3 vals g w hH hn hl hv) ?_
     rintro e w' ⟨u,g',rfl,k1,k2,k3,k4⟩
     refine⟨u,g'.cut w' H.length,rfl,Qj1 k1 hH.n,QiH hH k2 hr ho hs ht,Qf9 k2 k3 hz,fun xs e=> ?_⟩
     subst e
     have e:=Qg4 hz
     rw[e]at k4
     exact FOK.cut (loc:= .res) rfl (by simp) k4 xs rfl
   ·cases h
  ·cases h
 ·cases h
theorem Qgj{P:Program}{f:FuncId}{F:Qba}(hF:FSoundC P f F):FSoundC P f (QgC f F):=by
 unfold QgC
 split
 ·exact Qnn hF
 ·exact hF
theorem cutF_le{F F':Qba}(h:∀lim a H r,F' lim a H=some r→F lim a H=some r){lim:Nat}{a:List AV}{H:Qab}{r:AV×Qab}(hr:cutF F' lim a H=some r):cutF F lim a H=some r:=by
 unfold cutF at hr⊢
 cases hF:F' lim a H with
 |none=>rw[hF]at hr;cases hr
 |some x=>rw[hF]at hr;rw[h _ _ _ _ hF];exact hr
theorem cutIf_le{f:FuncId}{F F':Qba}(h:∀lim a H r,F' lim a H=some r→F lim a H=some r){lim:Nat}{a:List AV}{H:Qab}{r:AV×Qab}(hr:QgC f F' lim a H=some r):QgC f F lim a H=some r:=by
 unfold QgC at hr⊢
 split
 ·rename_i hc;rw[if_pos hc]at hr;exact cutF_le h hr
 ·rename_i hc;rw[if_neg hc]at hr;exact h _ _ _ _ hr
theorem QlD{f:FuncId}{F:Qba}{lim:Nat}{a:List AV}{H:Qab}(h:F lim a H=none):QgC f F lim a H=none:=by
 unfold QgC
 split
 ·unfold cutF;rw[h]
 ·exact h
end Go.Abs
namespace Go.Abs
open Go.RowKit
variable [Tab]
inductive Anc (ops:Array Oper):Nat→Nat→Prop where
 |edge (i:Nat) (o:Oper) (e:Edge) (ho:ops[i]? =some o) (he:e∈o.after) (hb:Region.binds .any e=true):Anc ops e.on i
 |trans (i j:Nat) (o:Oper) (e:Edge) (ho:ops[i]? =some o) (he:e∈o.after) (hb:Region.binds .any e=true) (h:Anc ops j e.on):Anc ops j i
theorem QlB(look:Nat→Nat)(j:Nat):∀(l:List Edge) (s:Nat),(l.foldl (fun s e=>if Region.binds .any e then s|||2^e.on|||look e.on else s) s).testBit j=true→
  s.testBit j=true∨∃e∈l,Region.binds .any e=true∧(j=e.on∨(look e.on).testBit j=true):=by
 intro l
 induction l with
 |nil=>intro s h;exact .inl h
 |cons e l ih=>
  intro s h
  simp only[List.foldl_cons]at h
  rcases ih _ h with h|⟨e',he',h⟩
  ·split at h
   ·rename_i hb
    simp only[Nat.testBit_or,Nat.testBit_two_pow,Bool.or_eq_true,decide_eq_true_eq]at h
    rcases h with(h|h)|h
    ·exact .inl h
    ·exact .inr ⟨e,by simp,hb,.inl h.symm⟩
    ·exact .inr ⟨e,by simp,hb,.inr h⟩
   ·exact .inl h
  ·exact .inr ⟨e',by simp[he'],h⟩
theorem QaR(ops:Array Oper){i j:Nat}(h:ancB (Region.before ops) i j=true):Anc ops j i:=by
 have key:∀(l pre:List Oper) (acc:Array Nat),ops.toList=pre++l→acc.size=pre.length→(∀i j,(acc.getD i 0).testBit j=true→Anc ops j i)→
   ∀i j,((l.foldl (fun acc o=>acc.push (o.after.foldl (fun s e=>if Region.binds .any e then s|||2^e.on|||acc.getD e.on 0 else s) 0)) acc).getD i 0).testBit j=true→Anc ops j i:=by
  intro l
  induction l with
  |nil=>intro pre acc _ _ h;exact h
  |cons o l ih=>
   intro pre acc he hs hacc
   refine ih (pre++ [o]) _ (by simp[he]) (by simp[hs]) fun i j hb=> ?_
   by_cases hi:i=acc.size
   ·subst hi
    have ho:ops[acc.size]? =some o:=by
     have:ops.toList[acc.size]? =some o:=by rw[he,hs];simp
     simpa using this
    simp only[←Array.foldl_toList]at hb
    have hb':(o.after.toList.foldl (fun s e=>if Region.binds .any e then s|||2^e.on|||acc.getD e.on 0 else s) 0).testBit j=true:=by
     simpa[Array.getD]using hb
    rcases QlB (fun k=>acc.getD k 0) j _ _ hb' with h0|⟨e,hm,hbd,h1⟩
    ·simp at h0
    ·have hm':e∈o.after:=by simpa using hm
     rcases h1 with rfl|h1
     ·exact .edge _ o e ho hm' hbd
     ·exact .trans _ _ o e ho hm' hbd (hacc _ _ h1)
   ·refine hacc i j ?_
    have:∀x:Nat,(acc.push x).getD i 0=acc.getD i 0:=fun x=>by
     simp only[Array.getD_eq_getD_getElem?,Array.getElem?_push]
     rw[if_neg hi]
    rw[this]at hb
    exact hb
 unfold ancB Region.before at h
 rw[←Array.foldl_toList]at h
 exact key ops.toList [] #[] rfl rfl (fun i j h=>by simp at h) i j h
theorem QdA{ops:Array Oper}{listed:Nat→Prop}(hcl:∀i o,listed i→ops[i]? =some o→∀e∈o.after,Region.binds .any e=true→listed e.on){i j:Nat}(h:Anc ops j i):
  (∀o,ops[i]? =some o→∀e∈o.after,Region.binds .any e=true→listed e.on)→listed j:=by
 induction h with
 |edge i o e ho he hb=>intro hr;exact hr o ho e he hb
 |trans i j o e ho he hb h ih=>intro hr;exact ih fun o' ho' e' he' hb'=>hcl _ o' (hr o ho e he hb) ho' e' he' hb'
structure SOp where
 dst:Option Nat
 cons:List Nat
 val:AV
def SOp.run(o:SOp)(T:List AV):List AV:=put (unflag T o.cons) o.dst o.val
def SOp.cell(t:Nat)(o:SOp)(x:Option AV):Option AV:=if o.dst=some t then x.map fun _=>o.val else if t∈o.cons then x.map AV.unf else x
theorem SOp.run_get(o:SOp)(T:List AV)(t:Nat):(o.run T)[t]? =o.cell t T[t]? :=by
 unfold SOp.run SOp.cell
 cases hd:o.dst with
 |none=>simp only[put];rw[Qcw];simp
 |some d=>
  simp only[put]
  by_cases hdt:d=t
  ·subst hdt
   simp only[if_true]
   by_cases hl:d<T.length
   ·rw[List.getElem?_set_self (by rw[Qbv];exact hl),List.getElem?_eq_getElem hl];rfl
   ·rw[List.getElem?_eq_none (by rw[List.length_set,Qbv];omega),List.getElem?_eq_none (by omega)];rfl
  ·rw[List.getElem?_set_ne hdt,Qcw]
   have hne:¬(some d=some t):=fun e=>hdt (Option.some.inj e)
   simp only[hne,if_false]
def SOp.touches(t:Nat)(o:SOp):Bool:=o.dst==some t||o.cons.contains t
theorem SOp.cell_same{t:Nat}{o:SOp}(h:o.touches t=false)(x:Option AV):o.cell t x=x:=by
 simp only[SOp.touches,Bool.or_eq_false_iff,beq_eq_false_iff_ne]at h
 unfold SOp.cell
 rw[if_neg h.1,if_neg (by simpa using h.2)]
def Qau(F:Nat→SOp)(l:List Nat)(T:List AV):List AV:=l.foldl (fun T i=>(F i).run T) T
theorem QgM(F:Nat→SOp)(t:Nat):∀(l:List Nat) (T:List AV),(Qau F l T)[t]? =(l.filter fun i=>(F i).touches t).foldl (fun x i=>(F i).cell t x) T[t]? :=by
 intro l
 induction l with
 |nil=>intro T;rfl
 |cons i l ih=>
  intro T
  simp only[Qau,List.foldl_cons]at ih⊢
  rw[ih,SOp.run_get]
  cases ht:(F i).touches t with
  |true=>rw[List.filter_cons_of_pos (by simp[ht])];rfl
  |false=>rw[List.filter_cons_of_neg (by simp[ht]),SOp.cell_same ht]
theorem Qh5:∀ {A B:List Nat},A.Pairwise (· < ·)→B.Pairwise (· < ·)→(∀x,x∈A↔x∈B)→A=B
 | [],[],_,_,_=>rfl
 | [],b::B,_,_,h=>absurd ((h b).2 (by simp)) (by simp)
 |a::A,[],_,_,h=>absurd ((h a).1 (by simp)) (by simp)
 |a::A,b::B,hA,hB,h=>by
  rw[List.pairwise_cons]at hA hB
  have e:a=b:=by
   have h1:=(h a).1 (by simp)
   have h2:=(h b).2 (by simp)
   simp only[List.mem_cons]at h1 h2
   rcases h1 with h1|h1
   ·exact h1
   ·rcases h2 with h2|h2
    ·exact h2.symm
    ·have:=hA.1 b h2;have:=hB.1 a h1;omega
  subst e
  refine congrArg _ (Qh5 hA.2 hB.2 fun x=>⟨fun hx=> ?_,fun hx=> ?_⟩)
  ·have h1:=(h x).1 (by simp[hx])
   simp only[List.mem_cons]at h1
   rcases h1 with h1|h1
   ·have:=hA.1 x hx;omega
   ·exact h1
  ·have h1:=(h x).2 (by simp[hx])
   simp only[List.mem_cons]at h1
   rcases h1 with h1|h1
   ·have:=hB.1 x hx;omega
   ·exact h1
theorem Qc3{F:Nat→SOp}{t:Nat}{A B:List Nat}(hA:A.Pairwise fun i j=>(F i).touches t=true→(F j).touches t=true→i<j)(hB:B.Pairwise fun i j=>(F i).touches t=true→(F j).touches t=true→i<j)
  (h:∀i,(F i).touches t=true→(i∈A↔i∈B))(T:List AV):(Qau F A T)[t]? =(Qau F B T)[t]? :=by
 rw[QgM,QgM]
 have srt:∀ {C:List Nat},C.Pairwise (fun i j=>(F i).touches t=true→(F j).touches t=true→i<j)→(C.filter fun i=>(F i).touches t).Pairwise (· < ·):=by
  intro C hC
  induction C with
  |nil=>simp
  |cons c C ih=>
   rw[List.pairwise_cons]at hC
   cases hc:(F c).touches t with
   |true=>
    rw[List.filter_cons_of_pos (by simp[hc]),List.pairwise_cons]
    exact⟨fun x hx=>by rw[List.mem_filter]at hx;exact hC.1 x hx.1 hc hx.2,ih hC.2⟩
   |false=>rw[List.filter_cons_of_neg (by simp[hc])];exact ih hC.2
 rw[Qh5 (srt hA) (srt hB) fun x=>by
  simp only[List.mem_filter]
  exact⟨fun⟨h1,h2⟩=>⟨(h x h2).1 h1,h2⟩,fun⟨h1,h2⟩=>⟨(h x h2).2 h1,h2⟩⟩]
def SOp.bare(o:SOp):SOp:= { o with cons:= [] }
theorem Qdq(F:Nat→SOp)(t:Nat):∀(l:List Nat) (T T':List AV),(T[t]?).map AV.unf=(T'[t]?).map AV.unf→((Qau F l T)[t]?).map AV.unf=((Qau (fun i=>(F i).bare) l T')[t]?).map AV.unf:=by
 intro l
 induction l with
 |nil=>intro T T' h;exact h
 |cons i l ih=>
  intro T T' h
  simp only[Qau,List.foldl_cons]at ih⊢
  refine ih _ _ ?_
  rw[SOp.run_get,SOp.run_get]
  unfold SOp.cell
  show Option.map AV.unf (if(F i).dst=some t then _ else _)=Option.map AV.unf (if(F i).dst=some t then _ else if t∈ []then _ else _)
  split
  ·cases h1:T[t]? <;>cases h2:T'[t]? <;>simp[h1,h2]at h⊢<;>rfl
  ·have hn:¬(t∈([]:List Nat)):=by simp
   rw[if_neg hn]
   split
   ·rw[←h]
    cases T[t]? with
    |none=>rfl
    |some x=>cases x<;>rfl
   ·exact h
end Go.Abs
namespace Go.Abs
open Go.RowKit
variable [Tab]
theorem Qd5{α:Type}{f g:α→AV}{l:List α}(h:∀x∈l,f x=g x):l.map f=l.map g:=List.map_congr_left h
set_option maxHeartbeats 4000000 in
theorem Qdn{E:Qa0}{lim:Nat}{H:Qab}{ρ ρ':Opd→AV}{o:COp}(h:∀x∈o.opds,ρ x=ρ' x):aop E lim H ρ o=aop E lim H ρ' o:=by
 have opt:∀ {x:Option Opd} {n:Nat},(∀y∈x.toList,ρ y=ρ' y)→optInt ρ n x=optInt ρ' n x:=fun{x n} hx=>by
  cases x with
  |none=>rfl
  |some y=>simp only[optInt];rw[hx y (by simp)]
 cases o with
 |build zero ps=>
  have:(ps.map fun p=>(p.1,p.2.1,ρ p.2.2))=ps.map fun p=>(p.1,p.2.1,ρ' p.2.2):=List.map_congr_left fun p hp=>by rw[h p.2.2 (by simp only[COp.opds,List.mem_map];exact⟨p,hp,rfl⟩)]
  simp only[aop,this]
 |buildSl sz zero len ps=>
  have:(ps.map fun p=>(p.1*sz,sz,ρ p.2))=ps.map fun p=>(p.1*sz,sz,ρ' p.2):=List.map_congr_left fun p hp=>by rw[h p.2 (by simp only[COp.opds,List.mem_map];exact⟨p,hp,rfl⟩)]
  simp only[aop,this]
 |buildLit sz zero len ps=>
  have:(ps.map fun p=>(p.1*sz,sz,ρ p.2))=ps.map fun p=>(p.1*sz,sz,ρ' p.2):=List.map_congr_left fun p hp=>by rw[h p.2 (by simp only[COp.opds,List.mem_map];exact⟨p,hp,rfl⟩)]
  simp only[aop,this]
 |mkFunc fn cs=>simp only[aop];rw[Qd5 (f:=ρ) (g:=ρ') (l:=cs) fun x hx=>h x hx]
 |minI xs=>simp only[aop];rw[Qd5 (f:=ρ) (g:=ρ') (l:=xs) fun x hx=>h x hx]
 |maxI xs=>simp only[aop];rw[Qd5 (f:=ρ) (g:=ρ') (l:=xs) fun x hx=>h x hx]
 |call f aa=>simp only[aop];rw[Qd5 (f:=ρ) (g:=ρ') (l:=aa) fun x hx=>h x hx]
 |callV f aa=>
  have e:=h f (by simp[COp.opds])
  have e2:aa.map ρ=aa.map ρ':=Qd5 fun x hx=>h x (by simp[COp.opds,hx])
  simp only[aop,e,e2]
 |slStr x lo hi=>
  have e:=h x (by simp[COp.opds])
  have e1:∀n,optInt ρ n lo=optInt ρ' n lo:=fun n=>opt fun y hy=>h y (by simp only[COp.opds,List.mem_cons,List.mem_append];exact .inr (.inl hy))
  have e2:∀n,optInt ρ n hi=optInt ρ' n hi:=fun n=>opt fun y hy=>h y (by simp only[COp.opds,List.mem_cons,List.mem_append];exact .inr (.inr hy))
  simp only[aop,e,e1,e2]
 |slArr n sz x lo hi=>
  have e:=h x (by simp[COp.opds])
  have e1:∀n,optInt ρ n lo=optInt ρ' n lo:=fun n=>opt fun y hy=>h y (by simp only[COp.opds,List.mem_cons,List.mem_append];exact .inr (.inl hy))
  have e2:∀n,optInt ρ n hi=optInt ρ' n hi:=fun n=>opt fun y hy=>h y (by simp only[COp.opds,List.mem_cons,List.mem_append];exact .inr (.inr hy))
  simp only[aop,e,e1,e2]
 |sl sz x lo hi mx=>
  have e:=h x (by simp[COp.opds])
  have e1:∀n,optInt ρ n lo=optInt ρ' n lo:=fun n=>opt fun y hy=>h y (by simp only[COp.opds,List.mem_cons,List.mem_append];exact .inr (.inl (.inl hy)))
  have e2:∀n,optInt ρ n hi=optInt ρ' n hi:=fun n=>opt fun y hy=>h y (by simp only[COp.opds,List.mem_cons,List.mem_append];exact .inr (.inl (.inr hy)))
  have e3:∀n,optInt ρ n mx=optInt ρ' n mx:=fun n=>opt fun y hy=>h y (by simp only[COp.opds,List.mem_cons,List.mem_append];exact .inr (.inr hy))
  cases mx with
  |none=>simp only[aop,e,e1,e2,e3]
  |some m=>
   have e4:=h m (by simp only[COp.opds,List.mem_cons,List.mem_append];exact .inr (.inr (by simp)))
   simp only[aop,e,e1,e2,e3,e4]
 |_=>
  simp only[COp.opds,List.mem_cons,List.not_mem_nil,or_false,forall_eq_or_imp,forall_eq]at h
  first
   |rfl
   |(obtain⟨h1,h2,h3⟩:=h;simp only[aop,h1,h2,h3])
   |(obtain⟨h1,h2⟩:=h;simp only[aop,h1,h2])
   |simp only[aop,h]
set_option maxHeartbeats 4000000 in
theorem QeO{E:Qa0}{lim:Nat}{H H1:Qab}{ρ:Opd→AV}{o:COp}{a:AV}(hc:QbB o=0)(h:aop E lim H ρ o=some (a,H1)):H1=H∧∀K,aop E lim K ρ o=some (a,K):=by
 cases o<;>(first|(simp[QbB]at hc;done)|skip)<;>simp only[aop]at h⊢<;>repeat' split at h
 all_goals first
  |(simp at h;done)
  |(simp only[Option.some.injEq,Prod.mk.injEq]at h;obtain⟨rfl,rfl⟩:=h;exact⟨rfl,fun K=>by simp_all⟩)
  |(simp only[Option.map_eq_some_iff,Prod.mk.injEq]at h;obtain⟨y,h1,h2,rfl⟩:=h;exact⟨rfl,fun K=>by simp_all⟩)
theorem QcM{E:Qa0}{lim:Nat}{H H1:Qab}{ρ:Opd→AV}{o:COp}{a:AV}(hc:QbB o=1)(h:aop E lim H ρ o=some (a,H1)):H1=H:=by
 cases o<;>(first|(simp[QbB]at hc;done)|skip)<;>simp only[aop]at h<;>repeat' split at h
 all_goals first
  |(simp at h;done)
  |(simp only[Option.some.injEq,Prod.mk.injEq]at h;exact h.2.symm)
  |(simp only[Option.map_eq_some_iff,Prod.mk.injEq]at h;obtain⟨y,h1,h2,h3⟩:=h;exact h3.symm)
end Go.Abs
