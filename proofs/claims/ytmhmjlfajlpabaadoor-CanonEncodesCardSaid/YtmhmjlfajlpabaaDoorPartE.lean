/- Part 5. -/
import Derived.Test.YtmhmjlfajlpabaaDoorPartD
import Derived.KernelRfl
import Derived.Lib.ItoaNum
set_option linter.all false
set_option maxRecDepth 100000
namespace Go.Proofs.YtmhmjlfajlpabaaDoor
open Go Go.Abs
variable {pr : FuncId → Option AFun} {pP : FuncId → Option PFun} [POK pr] [PPOK pr pP]
theorem stop_ev (lim : Nat) (H : AHeap) (r e p : Nat) : EvP (envP code pf pr pP) 26 lim [.ptr r 0,intD e,intD p] H (stopP e p) := by
 refine Fv.evP (X := (envN code pr)) ?_
 refine Fv_of (pn rfl) rfl (by first | exact rfl | exact pnP (pr := pr) rfl) rfl (show code 26 = some c26 from rfl) rfl ?_; simp only [List.length_cons,List.length_nil,List.cons_append,List.nil_append,simprocAttr]
 refine V_region ?_
 apply VO_take 2
 ·intro _; simp only [zz,simprocAttr]; exact rfl
 ·simp only [List.drop_succ_cons,List.drop_zero]
  exact VO_panic rfl rfl
theorem want_ok (lim : Nat) (H : AHeap) (r : Nat) (s : Tx) (p : Nat) (c : UInt8) (gr : H[r]? = some (rdO s p)) (hl : lim ≤ r) (hs : s.length ≤ 16384) (h : s[p]? = some c) : Ev (envN code pr) 57 lim [.ptr r 0,.d (.int .u8 c.toNat)] H (.tuple []) (H.set r (rdO s (p + 1))) := by
 refine @Fv.ev _ (envN code pr) (envP code pf pr fun _ => none) _ _ _ _ _ _ ?_
 have hp := (List.getElem?_eq_some_iff.1 h).1
 have w1 : IntKind.i64.wrap ((p : Int) + 1) = ((p + 1 : Nat) : Int) := wpos (by omega)
 have f0 : decide (p = s.length) = false := by simp; omega
 have f1 : ((c.toNat : Int) != (c.toNat : Int)) = false := by simp
 refine Fv_of (pn rfl) rfl (by first | exact rfl | exact pnP (pr := pr) rfl) rfl (show code 57 = some c57 from rfl) rfl ?_; simp only [List.length_cons,List.length_nil,List.cons_append,List.nil_append,simprocAttr]
 (repeat ((first | refine V_sq ?_ | refine V_bk ?_ | refine V_ret ?_ | refine V_exit ?_ | refine V_skip ?_ | (apply V_rg; focus (intro _; simp only [zz,simprocAttr,gr,p_eq,f0,f1,h,byteD',w1,hl]; (first | done | with_reducible exact rfl))) | (refine V_cT ?_ ?_; focus (simp only [zp,simprocAttr]; done)) | (refine V_cF ?_ ?_; focus (simp only [zp,simprocAttr]; done))) <;> (try simp only [zp,simprocAttr])))
 exact ans_keepN rfl ⟨rfl,rfl⟩
theorem want_no (lim : Nat) (H : AHeap) (r : Nat) (s : Tx) (p : Nat) (c : UInt8) (gr : H[r]? = some (rdO s p)) (hp : p ≤ s.length) (h : s[p]? ≠ some c) : EvP (envP code pf pr pP) 57 lim [.ptr r 0,.d (.int .u8 c.toNat)] H (stopP 11 p) := by
 refine Fv.evP (X := (envN code pr)) ?_
 refine Fv_of (pn rfl) rfl (by first | exact rfl | exact pnP (pr := pr) rfl) rfl (show code 57 = some c57 from rfl) rfl ?_; simp only [List.length_cons,List.length_nil,List.cons_append,List.nil_append,simprocAttr]
 by_cases q : p = s.length
 ·have f0 : decide (p = s.length) = true := by simp [q]
  (iterate 4 refine v_s (j_ gr (j_ @p_eq f0)) ?_)
  refine V_region ?_; apply VO_take 3; (focus (intro _; simp only [zz,simprocAttr,gr]; (first | done | with_reducible exact rfl))); simp only [List.drop_succ_cons,List.drop_zero]; refine VO_call rfl ?_; simp only [zz,simprocAttr]
  exact EvP.fv (stop_ev _ _ r 11 p) rfl
 ·have f0 : decide (p = s.length) = false := by simp [q]
  have f1 := get_at (s := s) (p := p) (by omega)
  have f2 : (((nx s p).toNat : Int) != (c.toNat : Int)) = true := by
   simp only [bne_iff_ne,ne_eq]
   intro e
   have : (nx s p).toNat = c.toNat := by omega
   exact h (by rw [f1,UInt8.toNat_inj.1 this])
  (iterate 4 ((first | refine V_sq ?_ | refine V_bk ?_ | refine V_ret ?_ | refine V_exit ?_ | refine V_skip ?_ | (apply V_rg; focus (intro _; simp only [zz,simprocAttr,gr,p_eq,f0,f1,f2,byteD']; (first | done | with_reducible exact rfl))) | (refine V_cT ?_ ?_; focus (simp only [zp,simprocAttr]; done)) | (refine V_cF ?_ ?_; focus (simp only [zp,simprocAttr]; done))) <;> (try simp only [zp,simprocAttr])))
  refine V_region ?_; apply VO_take 3; (focus (intro _; simp only [zz,simprocAttr,gr]; (first | done | with_reducible exact rfl))); simp only [List.drop_succ_cons,List.drop_zero]; refine VO_call rfl ?_; simp only [zz,simprocAttr]
  exact EvP.fv (stop_ev _ _ r 11 p) rfl
end Go.Proofs.YtmhmjlfajlpabaaDoor
namespace Go.Proofs.YtmhmjlfajlpabaaDoor
open Go Go.Abs
variable {pr : FuncId → Option AFun} {pP : FuncId → Option PFun} [POK pr] [PPOK pr pP]
theorem want_cases (s : Tx) (c : UInt8) (p : Nat) : (s[p]? = some c ∧ wantS s c p = .ok (p + 1)) ∨ (s[p]? ≠ some c ∧ wantS s c p = .error (11,p)) := by
 unfold wantS
 by_cases h : s[p]? = some c
 ·exact .inl ⟨h,by rw [if_pos h]⟩
 ·exact .inr ⟨h,by rw [if_neg h]⟩
abbrev flatD (k n : Int) : D := .agg [.int .i64 k,.int .i64 n,.str [],.slice [],.slice []]
abbrev flatC (k n : Int) : List AV := [intD k,intD n,.d (.str []),.fslice [],.fslice []]
theorem word_all {s : Tx} : ∀ {w : Tx} {p : Nat},(∀ j,j < w.length → s[p + j]? = w[j]?) → wordS s w p = .ok (p + w.length)
 | [],p,_ => rfl
 | c :: w,p,h => by
  unfold wordS
  have h0 := h 0 (by simp)
  rcases want_cases s c p with ⟨h1,h2⟩ | ⟨h1,h2⟩
  ·rw [h2]
   have := word_all (s := s) (w := w) (p := p + 1) fun j hj => by
    have := h (j + 1) (by simpa using hj)
    rw [show p + 1 + j = p + (j + 1) by omega,this]; simp
   simp only [this,List.length_cons]
   rw [show p + 1 + w.length = p + (w.length + 1) by omega]
  ·exact absurd (by simpa using h0) h1
theorem word_at {s : Tx} : ∀ {w : Tx} {p i : Nat},i < w.length → (∀ j,j < i → s[p + j]? = w[j]?) → s[p + i]? ≠ w[i]? → wordS s w p = .error (11,p + i)
 | [],p,i,hi,_,_ => by cases hi
 | c :: w,p,0,_,_,hn => by
  unfold wordS
  rcases want_cases s c p with ⟨h1,h2⟩ | ⟨h1,h2⟩
  ·exact absurd (by simpa using h1) hn
  ·rw [h2]; rfl
 | c :: w,p,i + 1,hi,h,hn => by
  unfold wordS
  have h0 := h 0 (by omega)
  rcases want_cases s c p with ⟨h1,h2⟩ | ⟨h1,h2⟩
  ·rw [h2]
   have := word_at (s := s) (w := w) (p := p + 1) (i := i) (by simpa using hi) (fun j hj => by
    have := h (j + 1) (by omega)
    rw [show p + 1 + j = p + (j + 1) by omega,this]; simp) (by rw [show p + 1 + i = p + (i + 1) by omega]; simpa using hn)
   simp only [this]
   rw [show p + 1 + i = p + (i + 1) by omega]
  ·exact absurd (by simpa using h0) h1
theorem two_more {H : AHeap} {r : Nat} {o : AObj} (gr : H[r]? = some o) (A B : AObj) : ∃ KK : AObj → AObj → AHeap,(∀ x y,KK x y = H.set r x ++ [A,y]) ∧ KK o B = H ++ [A,B] ∧ (∀ x y,(KK x y)[r]? = some x) ∧ (∀ x y,(KK x y)[H.length]? = some A) ∧ (∀ x y,(KK x y)[H.length + 1]? = some y) ∧
  (∀ x x' y,(KK x y).set r x' = KK x' y) ∧ ∀ x y y',(KK x y).set (H.length + 1) y' = KK x y' := by
 obtain ⟨hr,e⟩ := List.getElem?_eq_some_iff.1 gr
 refine ⟨fun x y => H.set r x ++ [A,y],fun _ _ => rfl,?_,fun x y => ?_,fun x y => ?_,fun x y => ?_,fun x x' y => ?_,fun x y y' => ?_⟩
 ·simp only; rw [← e,List.set_getElem_self hr]
 ·simp only; rw [List.getElem?_append_left (by simpa using hr)]; simp [hr]
 ·simp only; rw [List.getElem?_append_right (by simp)]; simp
 ·simp only; rw [List.getElem?_append_right (by simp)]; simp
 ·simp only; rw [List.set_append_left _ _ (by simpa using hr),List.set_set]
 ·simp only; rw [List.set_append_right _ _ (by simp)]; simp
theorem len_app2 (H : AHeap) (A : AObj) : (H ++ [A]).length = H.length + 1 := by simp
theorem app2 (H : AHeap) (A B : AObj) : H ++ [A] ++ [B] = H ++ [A,B] := by simp
theorem word_ev (lim : Nat) (H : AHeap) (r : Nat) (s : Tx) (p : Nat) (w : Tx) (k n : Int) (gr : H[r]? = some (rdO s p)) (hl : lim ≤ r) (hs : s.length ≤ 16384) (hw : w.length ≤ 10) (hp : p ≤ s.length) :
  Fv (envN code pr) (envP code pf pr pP) 42 lim [.ptr r 0,.d (.str w),.agg [intD k,intD n,.d (.str []),.fslice [],.fslice []]] H (fun v H' => ∃ q,wordS s w p = .ok q ∧ v = .d (flatD k n) ∧ H' = H.set r (rdO s q)) (fun z => ∃ e,wordS s w p = .error e ∧ z = stopP e.1 e.2) := by
 refine Fv_ofC (pn rfl) rfl (by first | exact rfl | exact pnP (pr := pr) rfl) rfl (show code 42 = some c42 from rfl) rfl ?_; simp only [List.length_cons,List.length_nil,List.cons_append,List.nil_append,simprocAttr]
 obtain ⟨KK,kk0,kk1,kk2,kk3,kk4,kk5,kk6⟩ := two_more gr (.cells (flatC k n)) (.cells [intD 0,intD 0,.d (.str []),.fslice [],.fslice []])
 (iterate 4 refine v_s (j_ @len_app2 @app2) ?_)
 rw [← kk1]
 (iterate 2 refine v_s trivial ?_)
 refine V_lp (fun m st => ∃ i,i ≤ w.length ∧ m = w.length - i ∧ (∀ j,j < i → s[p + j]? = w[j]?) ∧ ∃ x : Nat → AV,st = ⟨[.ptr r 0,.d (.str w),x 2,x 3,.ptr (H.length + 1) 0,.ptr H.length 0,intD w.length,intD i,x 8,x 9],KK (rdO s (p + i)) (.cells [intD 0,intD 0,.d (.str []),.fslice [],.fslice []])⟩) ?_ _ _ ⟨0,Nat.zero_le _,rfl,fun j hj => by omega,ex_st _ _ _ rfl⟩
 rintro m _ ⟨i,hi,rfl,hm,x,rfl⟩
 have gi := kk2 (rdO s (p + i)) (.cells [intD 0,intD 0,.d (.str []),.fslice [],.fslice []])
 by_cases h0 : i < w.length
 ·have f0 : decide ((i : Int) < (w.length : Int)) = true := by simp; omega
  have w1 : IntKind.i64.wrap ((i : Int) + 1) = ((i + 1 : Nat) : Int) := wpos (by omega)
  have hc := get_at h0
  by_cases h1 : s[p + i]? = w[i]?
  ·rw [hc] at h1
   (repeat ((first | refine V_sq ?_ | refine V_bk ?_ | refine V_ret ?_ | refine V_exit ?_ | refine V_skip ?_ | (apply V_rg; focus (intro _; simp only [zz,simprocAttr,f0,hc,byteD']; (first | done | with_reducible exact rfl))) | (refine V_cT ?_ ?_; focus (simp only [zp,simprocAttr]; done)) | (refine V_cF ?_ ?_; focus (simp only [zp,simprocAttr]; done))) <;> (try simp only [zp,simprocAttr])))
   refine V_region ?_; apply VO_take 1; (focus (intro _; simp only [zz,simprocAttr,hc,byteD']; (first | done | with_reducible exact rfl))); simp only [List.drop_succ_cons,List.drop_zero]; refine VO_call rfl ?_; simp only [zz,simprocAttr]; refine Ev.fv (want_ok _ _ r s (p + i) (nx w i) gi hl hs h1) ?_
   (apply VO_end; (focus (intro _; simp only [zz,simprocAttr]; (first | done | with_reducible exact rfl)))) <;> (try simp only [zp,simprocAttr])
   refine v_r (j_ w1 kk5) ?_
   refine ⟨w.length - (i + 1),by omega,i + 1,h0,rfl,fun j hj => ?_,ex_st _ _ _ rfl⟩
   rcases Nat.lt_or_ge j i with hji | hji
   ·exact hm j hji
   ·obtain rfl : j = i := by omega
    rw [h1,hc]
  ·(repeat ((first | refine V_sq ?_ | refine V_bk ?_ | refine V_ret ?_ | refine V_exit ?_ | refine V_skip ?_ | (apply V_rg; focus (intro _; simp only [zz,simprocAttr,f0,hc,byteD']; (first | done | with_reducible exact rfl))) | (refine V_cT ?_ ?_; focus (simp only [zp,simprocAttr]; done)) | (refine V_cF ?_ ?_; focus (simp only [zp,simprocAttr]; done))) <;> (try simp only [zp,simprocAttr])))
   refine V_region ?_
   apply VO_take 1
   ·intro _; simp only [zz,simprocAttr,hc,byteD']; with_reducible exact rfl
   ·simp only [List.drop_succ_cons,List.drop_zero]
    refine VO_call rfl ?_
    simp only [zz,simprocAttr]
    have hpi : p + i ≤ s.length := by
     cases i with
     | zero => exact hp
     | succ i =>
      have h2 := hm i (by omega)
      rw [List.getElem?_eq_getElem (show i < w.length by omega)] at h2
      have := (List.getElem?_eq_some_iff.1 h2).1
      omega
    exact EvP.fv (want_no _ _ r s (p + i) (nx w i) gi hpi (by rw [← hc]; exact h1)) ⟨(11,p + i),word_at h0 hm (by rw [hc,← hc]; exact h1),rfl⟩
 ·obtain rfl : i = w.length := by omega
  have f0 : decide ((w.length : Int) < (w.length : Int)) = false := by simp
  have hl2 : lim ≤ H.length + 1 := by have := (List.getElem?_eq_some_iff.1 gr).1; omega
  refine v_r (j_ f0 (j_ kk3 (j_ kk4 (j_ kk6 hl2)))) ?_
  refine ans_drop (vs := [.d (flatD k n)]) ?_ (kk0 _ _) (List.getElem?_eq_some_iff.1 gr).1 rfl rfl ⟨p + w.length,word_all hm,rfl,rfl⟩
  simp only [resV,zz,simprocAttr,kk4]
end Go.Proofs.YtmhmjlfajlpabaaDoor
namespace Go.Proofs.YtmhmjlfajlpabaaDoor
open Go Go.Abs
variable {pr : FuncId → Option AFun} {pP : FuncId → Option PFun} [POK pr] [PPOK pr pP]
abbrev HX : Tx := [48,49,50,51,52,53,54,55,56,57,97,98,99,100,101,102,65,66,67,68,69,70]
def hexOK (c : UInt8) : Bool := match hexV c with
 | none => decide (Lib.indexByte HX c < 0)
 | some v => decide (v < 16) && (decide (Lib.indexByte HX c = v) || (decide (15 < Lib.indexByte HX c) && decide (Lib.indexByte HX c = v + 6))) && (decide (Lib.indexByte HX c ≤ 15) || decide (Lib.indexByte HX c = v + 6))
theorem hex_all : ∀ i : Fin 256,hexOK (UInt8.ofNat i.val) = true := by decide +kernel
theorem hex_ok (c : UInt8) : hexOK c = true := by
 have := hex_all ⟨c.toNat,c.toNat_lt⟩
 simpa using this
theorem i32n (a : Nat) (h : a < 2147483648) : IntKind.i32.wrap (a : Int) = a := w32 (by omega) (by omega)
theorem shl4 (n : Nat) (h : n < 65536) : shiftInt .shl .i32 (n : Int) 4 = some (.int .i32 ((n * 16 : Nat) : Int)) := by
 have h1 : shiftInt .shl .i32 (n : Int) 4 = some (.int .i32 (IntKind.i32.wrap ((n : Int) * 2 ^ 4))) := rfl
 have : (n : Int) * 2 ^ 4 = ((n * 16 : Nat) : Int) := by omega
 rw [h1,this,i32n _ (by omega)]
theorem or4 (n v : Nat) (h : n < 65536) (hv : v < 16) : binInt .or .i32 ((n * 16 : Nat) : Int) (v : Int) = some (.int .i32 ((n * 16 + v : Nat) : Int)) := by
 have h1 : binInt .or .i32 ((n * 16 : Nat) : Int) (v : Int) = some (.int .i32 (IntKind.i32.wrap ((BitVec.ofInt 32 ((n * 16 : Nat) : Int) ||| BitVec.ofInt 32 (v : Int)).toNat : Nat))) := rfl
 have e := Nat.shiftLeft_add_eq_or_of_lt (i := 4) (b := v) (by omega) n
 rw [Nat.shiftLeft_eq] at e
 rw [h1,ofInt_nat,ofInt_nat,BitVec.toNat_or,BitVec.toNat_ofNat,BitVec.toNat_ofNat,Nat.mod_eq_of_lt (a := n * 16) (show n * 16 < 2 ^ 32 by omega),Nat.mod_eq_of_lt (a := v) (show v < 2 ^ 32 by omega),← e,i32n _ (by omega)]
theorem code_lt : ∀ {k n p m q : Nat} {s : Tx},codeS s k n p = .ok (m,q) → m < (n + 1) * 16 ^ k ∧ q = p + k ∧ (p ≤ s.length → q ≤ s.length)
 | 0,n,p,m,q,s,h => by unfold codeS at h; cases h; exact ⟨by omega,by omega,fun h => h⟩
 | k + 1,n,p,m,q,s,h => by
  unfold codeS at h
  split at h
  ·cases h
  ·rename_i c hc
   split at h
   ·cases h
   ·rename_i v hv
    obtain ⟨h1,h2,h3⟩ := code_lt h
    have hk := hex_ok c
    unfold hexOK at hk
    rw [hv] at hk
    simp only [Bool.and_eq_true,decide_eq_true_eq] at hk
    have := (List.getElem?_eq_some_iff.1 hc).1
    refine ⟨?_,by omega,fun _ => h3 (by omega)⟩
    have h4 : (16 * n + v + 1) * 16 ^ k ≤ (n + 1) * 16 * 16 ^ k := Nat.mul_le_mul_right _ (by omega)
    rw [Nat.pow_succ,Nat.mul_comm (16 ^ k) 16,← Nat.mul_assoc]
    omega
abbrev i32D (n : Int) : AV := .d (.int .i32 n)
theorem code_ev (lim : Nat) (H : AHeap) (r : Nat) (s : Tx) (p : Nat) (gr : H[r]? = some (rdO s p)) (hl : lim ≤ r) (hs : s.length ≤ 16384) (hp : p ≤ s.length) :
  Fv (envN code pr) (envP code pf pr pP) 73 lim [.ptr r 0] H (fun v H' => ∃ n q,codeS s 4 0 p = .ok (n,q) ∧ v = i32D n ∧ H' = H.set r (rdO s q)) (fun z => ∃ e,codeS s 4 0 p = .error e ∧ z = stopP e.1 e.2) := by
 refine Fv_of (pn rfl) rfl (by first | exact rfl | exact pnP (pr := pr) rfl) rfl (show code 73 = some c73 from rfl) rfl ?_; simp only [List.length_cons,List.length_nil,List.cons_append,List.nil_append,simprocAttr]
 refine v_r trivial ?_
 refine V_lp (fun m st => ∃ i n,i ≤ 4 ∧ m = 4 - i ∧ n < 16 ^ i ∧ p + i ≤ s.length ∧ codeS s 4 0 p = codeS s (4 - i) n (p + i) ∧ ∃ x : Nat → AV,st = ⟨[.ptr r 0,x 1,x 2,x 3,x 4,i32D n,intD i,x 7,x 8,x 9],H.set r (rdO s (p + i))⟩) ?_ _ _ ⟨0,0,by omega,rfl,by simp,hp,rfl,ex_stH (rd_same gr).symm rfl⟩
 rintro m _ ⟨i,n,hi,rfl,hn,hpi,hc,x,rfl⟩
 have gi := rd_set gr (p + i)
 by_cases h0 : i < 4
 ·have f0 : decide ((i : Int) < 4) = true := by simp; omega
  have w1 : IntKind.i64.wrap ((i : Int) + 1) = ((i + 1 : Nat) : Int) := wpos (by omega)
  have hk := hex_ok (nx s (p + i))
  have hn2 : n < 65536 := Nat.lt_of_lt_of_le hn (Nat.pow_le_pow_right (by omega) (show i ≤ 4 by omega))
  by_cases h1 : p + i = s.length
  ·have f1 : decide (p + i = s.length) = true := by simp [h1]
   have he : codeS s (4 - i) n (p + i) = .error (11,p + i) := by
    rw [show 4 - i = (3 - i) + 1 by omega]; unfold codeS
    rw [List.getElem?_eq_none (by omega)]
   refine v_r f0 ?_
   (apply V_drw; focus (refine Evl.call (X := (envN code pr)) (next_ev lim (H.set r (rdO s (p + i))) r s (p + i) gi hpi) (Evl.call (X := (envN code pr)) (idx_ev lim (H.set r (rdO s (p + i))) HX (nx s (p + i))) (Evl.all fun k e2 e1 => ?_)); simp (maxSteps := 100000000) only [zz,zd,simprocAttr,e2,e1]; (first | done | with_reducible exact rfl))) <;> (try simp only [zp,simprocAttr])
   refine v_r (j_ gi (j_ @p_eq f1)) ?_
   refine V_region ?_; apply VO_take 3; (focus (intro _; simp only [zz,simprocAttr,gi]; (first | done | with_reducible exact rfl))); simp only [List.drop_succ_cons,List.drop_zero]; refine VO_call rfl ?_; simp only [zz,simprocAttr]
   exact EvP.fv (stop_ev _ _ r 11 (p + i)) ⟨_,by rw [hc,he],rfl⟩
  ·have f1 : decide (p + i = s.length) = false := by simp [h1]
   have hat := get_at (s := s) (p := p + i) (by omega)
   cases hv : hexV (nx s (p + i)) with
   | none =>
    unfold hexOK at hk
    rw [hv] at hk
    have he : codeS s (4 - i) n (p + i) = .error (11,p + i) := by
     rw [show 4 - i = (3 - i) + 1 by omega]; unfold codeS
     rw [hat]; simp only [hv]
    refine v_r f0 ?_
    (apply V_drw; focus (refine Evl.call (X := (envN code pr)) (next_ev lim (H.set r (rdO s (p + i))) r s (p + i) gi hpi) (Evl.call (X := (envN code pr)) (idx_ev lim (H.set r (rdO s (p + i))) HX (nx s (p + i))) (Evl.all fun k e2 e1 => ?_)); simp (maxSteps := 100000000) only [zz,zd,simprocAttr,e2,e1]; (first | done | with_reducible exact rfl))) <;> (try simp only [zp,simprocAttr])
    refine v_r (j_ gi (j_ @p_eq (j_ f1 hk))) ?_
    refine V_region ?_; apply VO_take 3; (focus (intro _; simp only [zz,simprocAttr,gi]; (first | done | with_reducible exact rfl))); simp only [List.drop_succ_cons,List.drop_zero]; refine VO_call rfl ?_; simp only [zz,simprocAttr]
    exact EvP.fv (stop_ev _ _ r 11 (p + i)) ⟨_,by rw [hc,he],rfl⟩
   | some v =>
    unfold hexOK at hk
    rw [hv] at hk
    simp only [Bool.and_eq_true,Bool.or_eq_true,decide_eq_true_eq] at hk
    obtain ⟨⟨hv16,hk1⟩,hk2⟩ := hk
    have he : codeS s (4 - i) n (p + i) = codeS s (4 - (i + 1)) (16 * n + v) (p + (i + 1)) := by
     rw [show 4 - i = (3 - i) + 1 by omega,show 4 - (i + 1) = 3 - i by omega]
     conv => lhs; unfold codeS
     rw [hat]; simp only [hv]; rfl
    have f2 : decide (Lib.indexByte HX (nx s (p + i)) < 0) = false := by simp; omega
    have s4 := shl4 n hn2
    have o4 := or4 n v hn2 hv16
    have wv : IntKind.i32.wrap (v : Int) = v := i32n v (by omega)
    have wp : IntKind.i64.wrap (((p + i : Nat) : Int) + 1) = ((p + (i + 1) : Nat) : Int) := by rw [wpos (by omega)]; rfl
    have hn3 : n * 16 + v < 16 ^ (i + 1) := by rw [Nat.pow_succ]; omega
    refine v_r f0 ?_
    (apply V_drw; focus (refine Evl.call (X := (envN code pr)) (next_ev lim (H.set r (rdO s (p + i))) r s (p + i) gi hpi) (Evl.call (X := (envN code pr)) (idx_ev lim (H.set r (rdO s (p + i))) HX (nx s (p + i))) (Evl.all fun k e2 e1 => ?_)); simp (maxSteps := 100000000) only [zz,zd,simprocAttr,e2,e1]; (first | done | with_reducible exact rfl))) <;> (try simp only [zp,simprocAttr])
    rcases Int.lt_or_le 15 (Lib.indexByte HX (nx s (p + i))) with h2 | h2
    ·have e6 : Lib.indexByte HX (nx s (p + i)) = v + 6 := by rcases hk1 with h | h <;> rcases hk2 with h' | h' <;> omega
     have f3 : decide (Lib.indexByte HX (nx s (p + i)) > 15) = true := by simp; omega
     have w2 : IntKind.i64.wrap (Lib.indexByte HX (nx s (p + i)) - 6) = (v : Int) := by rw [e6,w64 (by omega) (by omega)]; omega
     (repeat ((first | refine V_sq ?_ | refine V_bk ?_ | refine V_ret ?_ | refine V_exit ?_ | refine V_skip ?_ | (apply V_rg; focus (intro _; simp only [zz,simprocAttr,gi,p_eq,f1,f2,f3,w2,s4,o4,wv,wp,hl,rd_set2,w1]; (first | done | with_reducible exact rfl))) | (refine V_cT ?_ ?_; focus (simp only [zp,simprocAttr]; done)) | (refine V_cF ?_ ?_; focus (simp only [zp,simprocAttr]; done))) <;> (try simp only [zp,simprocAttr])))
     refine ⟨4 - (i + 1),by omega,i + 1,n * 16 + v,by omega,rfl,hn3,by omega,by rw [hc,he,Nat.mul_comm 16 n],ex_st _ _ _ rfl⟩
    ·have e6 : Lib.indexByte HX (nx s (p + i)) = v := by rcases hk1 with h | h <;> rcases hk2 with h' | h' <;> omega
     have f3 : decide (Lib.indexByte HX (nx s (p + i)) > 15) = false := by simp; omega
     refine v_r (j_ gi (j_ @p_eq (j_ f1 (j_ f2 f3)))) ?_
     (repeat ((first | refine V_sq ?_ | refine V_bk ?_ | refine V_ret ?_ | refine V_exit ?_ | refine V_skip ?_ | (apply V_rg; focus (intro _; simp only [zz,simprocAttr,gi,e6,s4,o4,wv,wp,hl,rd_set2,w1]; (first | done | with_reducible exact rfl))) | (refine V_cT ?_ ?_; focus (simp only [zp,simprocAttr]; done)) | (refine V_cF ?_ ?_; focus (simp only [zp,simprocAttr]; done))) <;> (try simp only [zp,simprocAttr])))
     refine ⟨4 - (i + 1),by omega,i + 1,n * 16 + v,by omega,rfl,hn3,by omega,by rw [hc,he,Nat.mul_comm 16 n],ex_st _ _ _ rfl⟩
 ·obtain rfl : i = 4 := by omega
  have f0 : decide (((4 : Nat) : Int) < 4) = false := by simp
  refine v_r f0 ?_
  exact ans_keep rfl ⟨n,p + 4,by rw [hc]; rfl,rfl,rfl⟩
end Go.Proofs.YtmhmjlfajlpabaaDoor
namespace Go.Proofs.YtmhmjlfajlpabaaDoor
open Go Go.Abs
theorem nx_end' {s : Tx} {p : Nat} (h : s.length ≤ p) : nx s p = 0 := by
 unfold nx; rw [List.getElem?_eq_none h]; rfl
theorem nx_lt' {s : Tx} {p : Nat} (h : nx s p ≠ 0) : p < s.length := by
 rcases Nat.lt_or_ge p s.length with h1 | h1
 ·exact h1
 ·exact absurd (nx_end' h1) h
theorem u8_t {c k : UInt8} {n : Int} (h : c = k) (hn : (k.toNat : Int) = n) : ((c.toNat : Int) == n) = true := by subst h; simpa using hn
theorem u8_f {c k : UInt8} {n : Int} (h : c ≠ k) (hn : (k.toNat : Int) = n) : ((c.toNat : Int) == n) = false := by
 rw [Bool.eq_false_iff]
 intro e
 have : (c.toNat : Int) = n := by simpa using e
 exact h (UInt8.toNat_inj.1 (by omega))
theorem blanks_le' (s : Tx) (p : Nat) : p ≤ blanksS s p ∧ (p ≤ s.length → blanksS s p ≤ s.length) := by
 unfold blanksS
 have := (List.takeWhile_prefix (p := isBlank) (l := s.drop p)).length_le
 rw [List.length_drop] at this
 omega
theorem want_lt {s : Tx} {c : UInt8} {p q : Nat} (h : wantS s c p = .ok q) : q = p + 1 ∧ q ≤ s.length := by
 unfold wantS at h
 split at h
 ·rename_i h1; have := (List.getElem?_eq_some_iff.1 h1).1; cases h; omega
 ·cases h
theorem word_lt {s : Tx} : ∀ {w : Tx} {p q : Nat},wordS s w p = .ok q → q = p + w.length ∧ (p ≤ s.length → q ≤ s.length)
 | [],p,q,h => by cases h; exact ⟨rfl,fun h => h⟩
 | c :: w,p,q,h => by
  unfold wordS at h
  split at h
  ·rename_i q' h1
   obtain ⟨rfl,h2⟩ := want_lt h1
   have := word_lt h
   simp only [List.length_cons]; omega
  ·cases h
theorem digits_lt {s : Tx} {first : Nat} : ∀ {f n p m q : Nat},digitsS s first f n p = .ok (m,q) → p ≤ q ∧ (p ≤ s.length → q ≤ s.length) ∧ (isDigit (nx s p) = true → p < q)
 | 0,_,_,_,_,h => by cases h
 | f + 1,n,p,m,q,h => by
  unfold digitsS at h
  split at h
  ·rename_i hd
   split at h
   ·cases h
   ·have hp : p < s.length := nx_lt' fun h => by rw [h] at hd; cases hd
    have := digits_lt h
    omega
  ·rename_i hd
   cases h; exact ⟨Nat.le_refl _,fun h => h,fun h => absurd h hd⟩
theorem number_lt {s : Tx} {p q : Nat} {j : J} (h : numberS s p = .ok (j,q)) : p < q ∧ q ≤ s.length := by
 unfold numberS at h
 simp only at h
 generalize hf : (if nx s p = 45 then p + 1 else p) = f at h
 have hpf : p ≤ f := by rw [← hf]; split <;> omega
 split at h
 ·rename_i hd
  split at h
  ·cases h
  ·rename_i n q' h1
   split at h
   ·cases h
   ·have hl : f < s.length := nx_lt' fun h => by rw [h] at hd; cases hd
    have := digits_lt h1
    have := this.2.2 hd
    cases h; omega
 ·cases h
theorem code_le {s : Tx} : ∀ {k n p m q : Nat},codeS s k n p = .ok (m,q) → p ≤ q ∧ (p ≤ s.length → q ≤ s.length)
 | 0,n,p,m,q,h => by unfold codeS at h; cases h; omega
 | k + 1,n,p,m,q,h => by
  unfold codeS at h
  split at h
  ·cases h
  ·rename_i c hc
   have := (List.getElem?_eq_some_iff.1 hc).1
   split at h
   ·cases h
   ·have := code_le h; omega
theorem esc_lt {s : Tx} {p n q : Nat} (h : escS s p = .ok (n,q)) : p < q ∧ q ≤ s.length := by
 unfold escS at h
 split at h
 ·cases h
 ·rename_i c hc
  have hl := (List.getElem?_eq_some_iff.1 hc).1
  iterate 6 (split at h; · have := congrArg Prod.snd (Except.ok.inj h); simp only at this; omega)
  split at h
  ·split at h
   ·cases h
   ·rename_i n1 p1 h1
    have := code_le h1
    split at h
    ·have := congrArg Prod.snd (Except.ok.inj h); simp only at this; omega
    ·split at h
     ·cases h
     ·rename_i hh
      have h92 : s[p1]? = some 92 ∧ s[p1 + 1]? = some 117 := Classical.byContradiction fun k => hh (.inr k)
      have := (List.getElem?_eq_some_iff.1 h92.2).1
      split at h
      ·cases h
      ·rename_i n2 p2 h2
       have := code_le h2
       split at h
       ·cases h
       ·have := congrArg Prod.snd (Except.ok.inj h); simp only at this; omega
  ·cases h
theorem chars_lt {s : Tx} : ∀ {f : Nat} {acc : Tx} {p q : Nat} {t : Tx},charsS s f acc p = .ok (t,q) → p < q ∧ q ≤ s.length
 | 0,_,_,_,_,h => by cases h
 | f + 1,acc,p,q,t,h => by
  unfold charsS at h
  split at h
  ·cases h
  ·rename_i c hc
   have hl := (List.getElem?_eq_some_iff.1 hc).1
   split at h
   ·cases h
   ·split at h
    ·cases h; omega
    ·split at h
     ·split at h
      ·cases h
      ·rename_i n1 p1 h1
       have := esc_lt h1
       have := chars_lt h
       omega
     ·have := chars_lt h; omega
theorem text_lt {s : Tx} {p q : Nat} {t : Tx} (h : textS s p = .ok (t,q)) : p < q ∧ q ≤ s.length := by
 unfold textS at h
 split at h
 ·cases h
 ·rename_i p1 h1
  have := want_lt h1
  have := chars_lt h
  omega
theorem more_lt {s : Tx} {first : Bool} {e : UInt8} {p q : Nat} {b : Bool} (h : moreS s first e p = .ok (b,q)) : p ≤ q ∧ (p ≤ s.length → q ≤ s.length) ∧ (b = false → p < q) := by
 unfold moreS at h
 simp only at h
 have hb := blanks_le' s p
 split at h
 ·rename_i h1; have := (List.getElem?_eq_some_iff.1 h1).1; cases h; refine ⟨by omega,fun _ => by omega,fun _ => by omega⟩
 ·split at h
  ·cases h; exact ⟨hb.1,hb.2,fun h => by cases h⟩
  ·split at h
   ·cases h
   ·rename_i q1 h1
    have := want_lt h1
    have hb2 := blanks_le' s q1
    cases h; exact ⟨by omega,fun _ => hb2.2 (by omega),fun h => by cases h⟩
theorem all_lt (s : Tx) : ∀ f : Nat,(∀ deep p j q,valueS s f deep p = .ok (j,q) → p < q ∧ (q ≤ s.length)) ∧
  (∀ deep first acc p l q,listS s f deep first acc p = .ok (l,q) → p < q ∧ (p ≤ s.length → q ≤ s.length)) ∧
  (∀ deep first ks acc p k l q,fieldsS s f deep first ks acc p = .ok (k,l,q) → p < q ∧ (p ≤ s.length → q ≤ s.length)) := by
 intro f
 induction f with
 | zero =>
  refine ⟨fun _ _ _ _ h => ?_,fun _ _ _ _ _ _ h => ?_,fun _ _ _ _ _ _ _ _ h => ?_⟩
  ·unfold valueS at h; cases h
  ·unfold listS at h; cases h
  ·unfold fieldsS at h; cases h
 | succ f ih =>
  refine ⟨fun deep p j q h => ?_,fun deep first acc p l q h => ?_,fun deep first ks acc p k l q h => ?_⟩
  ·unfold valueS at h
   split at h
   ·cases h
   split at h
   ·rename_i hc
    have hp : p < s.length := nx_lt' (by rw [hc]; decide)
    split at h
    ·cases h
    ·rename_i l q' h1
     have := ih.2.1 _ _ _ _ _ _ h1
     cases h; omega
   split at h
   ·rename_i hc
    have hp : p < s.length := nx_lt' (by rw [hc]; decide)
    split at h
    ·cases h
    ·rename_i k l q' h1
     have := ih.2.2 _ _ _ _ _ _ _ _ h1
     cases h; omega
   split at h
   ·split at h
    ·cases h
    ·rename_i t q' h1
     have := text_lt h1
     cases h; exact this
   split at h
   ·rename_i hc
    have hp : p < s.length := nx_lt' (by rw [hc]; decide)
    split at h
    ·cases h
    ·rename_i q' h1
     have := word_lt h1
     cases h; simp only [List.length_cons,List.length_nil] at this; omega
   split at h
   ·rename_i hc
    have hp : p < s.length := nx_lt' (by rw [hc]; decide)
    split at h
    ·cases h
    ·rename_i q' h1
     have := word_lt h1
     cases h; simp only [List.length_cons,List.length_nil] at this; omega
   split at h
   ·rename_i hc
    have hp : p < s.length := nx_lt' (by rw [hc]; decide)
    split at h
    ·cases h
    ·rename_i q' h1
     have := word_lt h1
     cases h; simp only [List.length_cons,List.length_nil] at this; omega
   exact number_lt h
  ·unfold listS at h
   split at h
   ·cases h
   ·rename_i q' h1
    have := more_lt h1
    have := this.2.2 rfl
    cases h; omega
   ·rename_i p' h1
    have := more_lt h1
    split at h
    ·cases h
    ·rename_i j q' h2
     have := ih.1 _ _ _ _ h2
     have := ih.2.1 _ _ _ _ _ _ h
     omega
  ·unfold fieldsS at h
   split at h
   ·cases h
   ·rename_i q' h1
    have := more_lt h1
    have := this.2.2 rfl
    cases h; omega
   ·rename_i p' h1
    have := more_lt h1
    split at h
    ·cases h
    ·rename_i k' q' h2
     have := text_lt h2
     split at h
     ·cases h
     ·split at h
      ·cases h
      ·rename_i r h3
       have := want_lt h3
       split at h
       ·cases h
       ·rename_i j z h4
        have := ih.1 _ _ _ _ h4
        have := ih.2.2 _ _ _ _ _ _ _ _ h
        have := blanks_le' s q'
        have := blanks_le' s r
        omega
theorem value_lt {s : Tx} {f deep p q : Nat} {j : J} (h : valueS s f deep p = .ok (j,q)) : p < q ∧ q ≤ s.length := (all_lt s f).1 _ _ _ _ h
variable {pr : FuncId → Option AFun} {pP : FuncId → Option PFun} [POK pr] [PPOK pr pP]
theorem prefix_ev (lim : Nat) (H : AHeap) (a b : Tx) (ha : a.length ≤ 16384) : Ev (envN code pr) 74 lim [.d (.str a),.d (.str b)] H (boolD (b.isPrefixOf a)) H := by
 have e1 : ∀ lim,Ev (envN code pr) 81 lim [.d (.str a),.d (.str b)] H (boolD (b.isPrefixOf a)) H := fun lim => by
  refine Fn.ev ?_
  refine Fn_of (pn rfl) rfl (show code 81 = some c81 from rfl) rfl ?_; simp only [List.length_cons,List.length_nil,List.cons_append,List.nil_append,simprocAttr]
  by_cases h : b.length ≤ a.length
  ·have f0 : decide ((a.length : Int) ≥ (b.length : Int)) = true := by simp; omega
   have f1 : ((b.length : Int) ≤ (a.length : Int)) = True := eq_true (by omega)
   have f2 : (a.take b.length == b) = b.isPrefixOf a := by
    rw [Bool.eq_iff_iff]
    simp only [beq_iff_eq,List.isPrefixOf_iff_prefix]
    exact ⟨fun h => ⟨a.drop b.length,(congrArg (· ++ a.drop b.length) h.symm).trans (List.take_append_drop _ _)⟩,fun ⟨t,ht⟩ => by rw [← ht]; simp⟩
   refine w_r (j_ f0 (j_ f1 f2)) ?_
   exact ans_cut rfl rfl ⟨rfl,rfl⟩
  ·have f0 : decide ((a.length : Int) ≥ (b.length : Int)) = false := by simp; omega
   have f2 : b.isPrefixOf a = false := by
    rw [Bool.eq_false_iff]
    intro hp
    have := (List.isPrefixOf_iff_prefix.1 hp).length_le
    omega
   refine w_r f0 ?_
   exact ans_cut rfl rfl ⟨by rw [f2],rfl⟩
 refine Fn.ev ?_
 refine Fn_of (pn rfl) rfl (show code 74 = some c74 from rfl) rfl ?_; simp only [List.length_cons,List.length_nil,List.cons_append,List.nil_append,simprocAttr]
 (iterate 3 refine w_s trivial ?_)
 refine w_1 (e1 H.length) trivial ?_
 refine w_r trivial ?_
 exact ans_cut rfl rfl ⟨rfl,rfl⟩
abbrev EX : Tx := [34,92,47,98,102,110,114,116,117]
theorem idx_lt (l : Tx) (c : UInt8) : decide (Lib.indexByte l c < 0) = !l.contains c := by
 rw [← idx_ge,Bool.eq_iff_iff]; simp
theorem esc_none {s : Tx} {p : Nat} (h : s[p]? = none ∨ ∃ c,s[p]? = some c ∧ EX.contains c = false) : escS s p = .error (11,p) := by
 unfold escS
 rcases h with h | ⟨c,h,hc⟩
 ·rw [h]
 ·rw [h]
  simp only [List.contains_cons,List.contains_nil,Bool.or_false,Bool.or_eq_false_iff,beq_eq_false_iff_ne,ne_eq] at hc
  obtain ⟨h1,h2,h3,h4,h5,h6,h7,h8,h9⟩ := hc
  simp only [h1,h2,h3,h4,h5,h6,h7,h8,h9,or_self,if_false]
theorem esc_u {s : Tx} {p : Nat} (h : s[p]? = some 117) : escS s p = match codeS s 4 0 (p + 1) with
   | .error e => .error e
   | .ok (n,p') => if n < 55296 ∨ 57343 < n then .ok (n,p')
    else if 56320 ≤ n ∨ ¬ (s[p']? = some 92 ∧ s[p' + 1]? = some 117) then .error (11,p - 1)
    else match codeS s 4 0 (p' + 2) with
     | .error e => .error e
     | .ok (m,q) => if m < 56320 ∨ 57343 < m then .error (11,p - 1) else .ok (65536 + (n - 55296) * 1024 + (m - 56320),q) := by
 conv => lhs; unfold escS
 rw [h]; rfl
theorem pre_two (s : Tx) (q : Nat) : ([92,117] : Tx).isPrefixOf (s.drop q) = decide (s[q]? = some 92 ∧ s[q + 1]? = some 117) := by
 have e0 : s[q]? = (s.drop q)[0]? := by simp
 have e1 : s[q + 1]? = (s.drop q)[1]? := by simp
 rw [e0,e1]
 rcases s.drop q with _ | ⟨a,_ | ⟨b,l⟩⟩
 ·rfl
 ·simp [List.isPrefixOf]
 ·simp only [List.isPrefixOf,Bool.and_true,List.getElem?_cons_zero,List.getElem?_cons_succ,Option.some.injEq]
  rw [Bool.eq_iff_iff]; simp only [Bool.and_eq_true,beq_iff_eq,decide_eq_true_eq]
  exact ⟨fun ⟨h1,h2⟩ => ⟨h1.symm,h2.symm⟩,fun ⟨h1,h2⟩ => ⟨h1.symm,h2.symm⟩⟩
theorem shl10 (n : Nat) (h : n < 65536) : shiftInt .shl .i32 (n : Int) 10 = some (.int .i32 ((n * 1024 : Nat) : Int)) := by
 have h1 : shiftInt .shl .i32 (n : Int) 10 = some (.int .i32 (IntKind.i32.wrap ((n : Int) * 2 ^ 10))) := rfl
 have : (n : Int) * 2 ^ 10 = ((n * 1024 : Nat) : Int) := by omega
 rw [h1,this,i32n _ (by omega)]
theorem esc_ev (lim : Nat) (H : AHeap) (r : Nat) (s : Tx) (p : Nat) (gr : H[r]? = some (rdO s p)) (hl : lim ≤ r) (hs : s.length ≤ 16384) (hp : p ≤ s.length) (h1 : 1 ≤ p) :
  Fv (envN code pr) (envP code pf pr pP) 60 lim [.ptr r 0] H (fun v H' => ∃ n q,escS s p = .ok (n,q) ∧ v = i32D n ∧ H' = H.set r (rdO s q)) (fun z => ∃ e,escS s p = .error e ∧ z = stopP e.1 e.2) := by
 have wm : IntKind.i64.wrap ((p : Int) - 1) = ((p - 1 : Nat) : Int) := by rw [w64 (by omega) (by omega)]; omega
 have wp : IntKind.i64.wrap ((p : Int) + 1) = ((p + 1 : Nat) : Int) := wpos (by omega)
 have gp := rd_set gr (p + 1)
 have f2 := idx_lt EX (nx s p)
 refine Fv_of (pn rfl) rfl (by first | exact rfl | exact pnP (pr := pr) rfl) rfl (show code 60 = some c60 from rfl) rfl ?_; simp only [List.length_cons,List.length_nil,List.cons_append,List.nil_append,simprocAttr]
 refine v_r (j_ gr wm) ?_
 (apply V_drw; focus (refine Evl.call (X := (envN code pr)) (next_ev lim H r s p gr hp) (Evl.all fun k e1 => ?_); simp (maxSteps := 100000000) only [zz,zd,simprocAttr,e1]; (first | done | with_reducible exact rfl))) <;> (try simp only [zp,simprocAttr])
 refine v_r trivial ?_
 (apply V_drw; focus (refine Evl.call (X := (envN code pr)) (idx_ev lim H EX (nx s p)) (Evl.all fun k e1 => ?_); simp (maxSteps := 100000000) only [zz,zd,simprocAttr,e1]; (first | done | with_reducible exact rfl))) <;> (try simp only [zp,simprocAttr])
 by_cases hq : p = s.length
 ·have f1 : decide (p = s.length) = true := by simp [hq]
  refine v_r (j_ gr (j_ @p_eq f1)) ?_
  refine V_region ?_; apply VO_take 3; (focus (intro _; simp only [zz,simprocAttr,gr]; (first | done | with_reducible exact rfl))); simp only [List.drop_succ_cons,List.drop_zero]; refine VO_call rfl ?_; simp only [zz,simprocAttr]
  exact EvP.fv (stop_ev _ _ r 11 p) ⟨_,esc_none (.inl (List.getElem?_eq_none (by omega))),rfl⟩
 have f1 : decide (p = s.length) = false := by simp [hq]
 have hat := get_at (s := s) (p := p) (by omega)
 cases hc : EX.contains (nx s p) with
 | false =>
  rw [hc] at f2
  refine v_r (j_ gr (j_ @p_eq (j_ f1 f2))) ?_
  refine V_region ?_; apply VO_take 3; (focus (intro _; simp only [zz,simprocAttr,gr]; (first | done | with_reducible exact rfl))); simp only [List.drop_succ_cons,List.drop_zero]; refine VO_call rfl ?_; simp only [zz,simprocAttr]
  exact EvP.fv (stop_ev _ _ r 11 p) ⟨_,esc_none (.inr ⟨_,hat,hc⟩),rfl⟩
 | true =>
  rw [hc] at f2
  have hin : nx s p = 34 ∨ nx s p = 92 ∨ nx s p = 47 ∨ nx s p = 98 ∨ nx s p = 102 ∨ nx s p = 110 ∨ nx s p = 114 ∨ nx s p = 116 ∨ nx s p = 117 := by simpa using hc
  refine v_r (j_ gr (j_ @p_eq (j_ f1 f2))) ?_
  rcases hin with e | e | e | e | e | e | e | e | e
  ·have ec : ((nx s p).toNat : Int) = 34 := by rw [e]; rfl
   have wc : IntKind.i32.wrap 34 = 34 := by decide
   refine v_r (j_ gr (j_ wp (j_ hl (j_ ec wc)))) ?_
   exact ans_keep rfl ⟨34,p + 1,by unfold escS; rw [hat,e]; rfl,rfl,rfl⟩
  ·have ec : ((nx s p).toNat : Int) = 92 := by rw [e]; rfl
   have wc : IntKind.i32.wrap 92 = 92 := by decide
   refine v_r (j_ gr (j_ wp (j_ hl (j_ ec wc)))) ?_
   exact ans_keep rfl ⟨92,p + 1,by unfold escS; rw [hat,e]; rfl,rfl,rfl⟩
  ·have ec : ((nx s p).toNat : Int) = 47 := by rw [e]; rfl
   have wc : IntKind.i32.wrap 47 = 47 := by decide
   refine v_r (j_ gr (j_ wp (j_ hl (j_ ec wc)))) ?_
   exact ans_keep rfl ⟨47,p + 1,by unfold escS; rw [hat,e]; rfl,rfl,rfl⟩
  ·have ec : ((nx s p).toNat : Int) = 98 := by rw [e]; rfl
   have wc : IntKind.i32.wrap 98 = 98 := by decide
   refine v_r (j_ gr (j_ wp (j_ hl (j_ ec wc)))) ?_
   exact ans_keep rfl ⟨8,p + 1,by unfold escS; rw [hat,e]; rfl,rfl,rfl⟩
  ·have ec : ((nx s p).toNat : Int) = 102 := by rw [e]; rfl
   have wc : IntKind.i32.wrap 102 = 102 := by decide
   refine v_r (j_ gr (j_ wp (j_ hl (j_ ec wc)))) ?_
   exact ans_keep rfl ⟨12,p + 1,by unfold escS; rw [hat,e]; rfl,rfl,rfl⟩
  ·have ec : ((nx s p).toNat : Int) = 110 := by rw [e]; rfl
   have wc : IntKind.i32.wrap 110 = 110 := by decide
   refine v_r (j_ gr (j_ wp (j_ hl (j_ ec wc)))) ?_
   exact ans_keep rfl ⟨10,p + 1,by unfold escS; rw [hat,e]; rfl,rfl,rfl⟩
  ·have ec : ((nx s p).toNat : Int) = 114 := by rw [e]; rfl
   have wc : IntKind.i32.wrap 114 = 114 := by decide
   refine v_r (j_ gr (j_ wp (j_ hl (j_ ec wc)))) ?_
   exact ans_keep rfl ⟨13,p + 1,by unfold escS; rw [hat,e]; rfl,rfl,rfl⟩
  ·have ec : ((nx s p).toNat : Int) = 116 := by rw [e]; rfl
   have wc : IntKind.i32.wrap 116 = 116 := by decide
   refine v_r (j_ gr (j_ wp (j_ hl (j_ ec wc)))) ?_
   exact ans_keep rfl ⟨9,p + 1,by unfold escS; rw [hat,e]; rfl,rfl,rfl⟩
  have ec : ((nx s p).toNat : Int) = 117 := by rw [e]; rfl
  have hu := esc_u (s := s) (p := p) (by rw [hat,e])
  refine v_r (j_ gr (j_ wp (j_ hl ec))) ?_
  refine V_region ?_; refine VO_call rfl ?_; simp only [zz,simprocAttr]
  refine Fv.mono (code_ev _ _ r s (p + 1) gp hl hs (by omega)) ?_ ?_
  rotate_left
  ·rintro z ⟨e',he,rfl⟩
   exact ⟨e',by rw [hu,he],rfl⟩
  rintro v H' ⟨n,q,hcode,rfl,rfl⟩
  rw [hcode] at hu
  simp only at hu
  obtain ⟨hn,-,hq2⟩ := code_lt hcode
  have hq2 := hq2 (by omega)
  rw [rd_set2]
  have gq := rd_set gr q
  (apply VO_end; (focus (intro _; simp only [zz,simprocAttr]; (first | done | with_reducible exact rfl)))) <;> (try simp only [zp,simprocAttr])
  by_cases c1 : n < 55296
  ·have g1 : decide ((n : Int) < 55296) = true := by simp; omega
   rw [if_pos (.inl c1)] at hu
   refine v_r g1 ?_
   exact ans_keep rfl ⟨n,q,hu,rfl,rfl⟩
  have g1 : decide ((n : Int) < 55296) = false := by simp; omega
  by_cases c2 : 57343 < n
  ·have g2 : decide ((n : Int) > 57343) = true := by simp; omega
   rw [if_pos (.inr c2)] at hu
   refine v_r (j_ g1 g2) ?_
   exact ans_keep rfl ⟨n,q,hu,rfl,rfl⟩
  have g2 : decide ((n : Int) > 57343) = false := by simp; omega
  rw [if_neg (by omega)] at hu
  by_cases c3 : 56320 ≤ n
  ·have g3 : decide ((n : Int) ≥ 56320) = true := by simp; omega
   rw [if_pos (.inl c3)] at hu
   refine v_r (j_ g1 (j_ g2 g3)) ?_
   refine V_region ?_; refine VO_call rfl ?_; simp only [zz,simprocAttr]
   exact EvP.fv (stop_ev _ _ r 11 (p - 1)) ⟨_,hu,rfl⟩
  have g3 : decide ((n : Int) ≥ 56320) = false := by simp; omega
  have hpre := prefix_ev (pr := pr) lim (H.set r (rdO s q)) (s.drop q) [92,117] (by rw [List.length_drop]; omega)
  rw [pre_two] at hpre
  have sl1 : ((q : Int) ≤ (s.length : Int)) = True := eq_true (by omega)
  have sl2 : s.take s.length = s := List.take_length
  by_cases c4 : s[q]? = some 92 ∧ s[q + 1]? = some 117
  ·rw [decide_eq_true c4] at hpre
   rw [if_neg (by rintro (h | h); exact c3 h; exact h c4)] at hu
   have wq : IntKind.i64.wrap ((q : Int) + 2) = ((q + 2 : Nat) : Int) := by rw [w64 (by omega) (by omega)]; omega
   have hql := (List.getElem?_eq_some_iff.1 c4.2).1
   refine v_r (j_ g1 g2) ?_
   (apply V_drw; focus (refine Evl.call (X := (envN code pr)) (hpre) (Evl.all fun k e1 => ?_); simp (maxSteps := 100000000) only [zz,zd,simprocAttr,gq,g3,sl1,sl2,e1]; (first | done | with_reducible exact rfl))) <;> (try simp only [zp,simprocAttr])
   (repeat ((first | refine V_sq ?_ | refine V_bk ?_ | refine V_ret ?_ | refine V_exit ?_ | refine V_skip ?_ | (apply V_rg; focus (intro _; simp only [zz,simprocAttr,gq,wq,hl,rd_set2]; (first | done | with_reducible exact rfl))) | (refine V_cT ?_ ?_; focus (simp only [zp,simprocAttr]; done)) | (refine V_cF ?_ ?_; focus (simp only [zp,simprocAttr]; done))) <;> (try simp only [zp,simprocAttr])))
   have gq2 := rd_set gr (q + 2)
   refine V_region ?_; refine VO_call rfl ?_; simp only [zz,simprocAttr]
   refine Fv.mono (code_ev _ _ r s (q + 2) gq2 hl hs (by omega)) ?_ ?_
   rotate_left
   ·rintro z ⟨e',he,rfl⟩
    rw [he] at hu
    exact ⟨e',hu,rfl⟩
   rintro v H' ⟨m,q3,hcode2,rfl,rfl⟩
   rw [hcode2] at hu
   simp only at hu
   obtain ⟨hm,-,-⟩ := code_lt hcode2
   rw [rd_set2]
   (apply VO_end; (focus (intro _; simp only [zz,simprocAttr]; (first | done | with_reducible exact rfl)))) <;> (try simp only [zp,simprocAttr])
   by_cases d1 : m < 56320
   ·have g4 : decide ((m : Int) < 56320) = true := by simp; omega
    rw [if_pos (.inl d1)] at hu
    refine v_r g4 ?_
    refine V_region ?_; refine VO_call rfl ?_; simp only [zz,simprocAttr]
    exact EvP.fv (stop_ev _ _ r 11 (p - 1)) ⟨_,hu,rfl⟩
   have g4 : decide ((m : Int) < 56320) = false := by simp; omega
   by_cases d2 : 57343 < m
   ·have g5 : decide ((m : Int) > 57343) = true := by simp; omega
    rw [if_pos (.inr d2)] at hu
    refine v_r (j_ g4 g5) ?_
    refine V_region ?_; refine VO_call rfl ?_; simp only [zz,simprocAttr]
    exact EvP.fv (stop_ev _ _ r 11 (p - 1)) ⟨_,hu,rfl⟩
   have g5 : decide ((m : Int) > 57343) = false := by simp; omega
   rw [if_neg (by omega)] at hu
   have a1 : IntKind.i32.wrap ((n : Int) - 55296) = ((n - 55296 : Nat) : Int) := by rw [w32 (by omega) (by omega)]; omega
   have a2 := shl10 (n - 55296) (by omega)
   have a3 : IntKind.i32.wrap (65536 + (((n - 55296) * 1024 : Nat) : Int)) = ((65536 + (n - 55296) * 1024 : Nat) : Int) := by rw [w32 (by omega) (by omega)]; omega
   have a4 : IntKind.i32.wrap (((65536 + (n - 55296) * 1024 : Nat) : Int) + (m : Int)) = ((65536 + (n - 55296) * 1024 + m : Nat) : Int) := by rw [w32 (by omega) (by omega)]; omega
   have a5 : IntKind.i32.wrap (((65536 + (n - 55296) * 1024 + m : Nat) : Int) - 56320) = ((65536 + (n - 55296) * 1024 + (m - 56320) : Nat) : Int) := by rw [w32 (by omega) (by omega)]; omega
   refine v_r (j_ g4 g5) ?_
   refine v_r (j_ a1 (j_ a2 (j_ a3 (j_ a4 a5)))) ?_
   exact ans_keep rfl ⟨_,q3,hu,rfl,rfl⟩
  ·rw [decide_eq_false c4] at hpre
   rw [if_pos (.inr c4)] at hu
   refine v_r (j_ g1 g2) ?_
   (apply V_drw; focus (refine Evl.call (X := (envN code pr)) (hpre) (Evl.all fun k e1 => ?_); simp (maxSteps := 100000000) only [zz,zd,simprocAttr,gq,g3,sl1,sl2,e1]; (first | done | with_reducible exact rfl))) <;> (try simp only [zp,simprocAttr])
   refine v_r trivial ?_
   refine V_region ?_; refine VO_call rfl ?_; simp only [zz,simprocAttr]
   exact EvP.fv (stop_ev _ _ r 11 (p - 1)) ⟨_,hu,rfl⟩
end Go.Proofs.YtmhmjlfajlpabaaDoor
namespace Go.Proofs.YtmhmjlfajlpabaaDoor
open Go Go.Abs Go.Lib
theorem dec_at (s : List UInt8) (i : Nat) : dec s i = decodeN (s.length - i) (by' s i) (by' s (i + 1)) (by' s (i + 2)) (by' s (i + 3)) := by
 have e : ∀ j,((⟨s.toArray⟩ : ByteArray).get! j).toNat = by' s j := fun j => by
  unfold by'
  show (s.toArray[j]!).toNat = _
  rw [Array.getElem!_eq_getD]
  simp only [Array.getD_eq_getD_getElem?,List.getElem?_toArray]
  cases s[j]? <;> rfl
 unfold dec
 rw [decode_at]
 simp only [e]
 rfl
theorem dec_dc (s : List UInt8) (i : Nat) : dec s i = dc (s.drop i) := by
 rw [dec_at]; unfold dc; simp only [by_drop,List.length_drop,Nat.add_zero]
theorem tab0_eq : tab0 = (List.range 256).map fun b => .int .u8 (firstT b : Nat) := by kernel_rfl
theorem tab0_get {b : Nat} (h : b < 256) : (tab0.drop b)[0]? = some (.int .u8 (firstT b : Nat)) := by
 rw [tab0_eq,List.getElem?_drop,Nat.add_zero,List.getElem?_map,List.getElem?_range h]; rfl
end Go.Proofs.YtmhmjlfajlpabaaDoor
namespace Go.Proofs.YtmhmjlfajlpabaaDoor
open Go Go.Abs
variable {pr : FuncId → Option AFun} {pP : FuncId → Option PFun} [POK pr] [PPOK pr pP]
theorem dg_drop {s : Tx} {p : Nat} (h : p < s.length) : dg (s.drop p) = dec s p := by
 unfold dg
 rw [if_neg (by rw [List.length_drop]; omega),dec_dc,dec_dc,List.drop_zero]
theorem dec_ev (lim : Nat) (H : AHeap) (t : Tx) : Ev (envN code pr) 35 lim [.d (.str t)] H (.tuple [.d (.int .i32 ((dg t).1 : Nat)),intD ((dg t).2 : Nat)]) H := Ev_prim (F := decF) POK.dec rfl
theorem broken_ev (lim : Nat) (H : AHeap) (s : Tx) (hs : s.length ≤ 1000000000) : Ev (envN code pr) 22 lim [.d (.str s)] H (intD (brokenN s)) H := by
 refine Fn.ev ?_
 refine Fn_of (pn rfl) rfl (show code 22 = some c22 from rfl) rfl ?_; simp only [List.length_cons,List.length_nil,List.cons_append,List.nil_append,simprocAttr]
 (iterate 6 refine w_s trivial ?_)
 refine W_lp (fun m st => ∃ p f,p ≤ s.length ∧ m = s.length - p ∧ s.length - p < f ∧ brokenN s = brokenS s f p ∧ ∃ x : Nat → AV,st = ⟨[.d (.str s),x 1,x 2,x 3,x 4,.ptr H.length 0,x 6,x 7,x 8,x 9,x 10,x 11],H ++ [.siter s p]⟩) ?_ _ _ ⟨0,s.length + 1,Nat.zero_le _,rfl,by omega,rfl,ex_st _ _ _ rfl⟩
 rintro m _ ⟨p,f,hp,rfl,hf,hb,x,rfl⟩
 obtain ⟨f,rfl⟩ : ∃ k,f = k + 1 := ⟨f - 1,by omega⟩
 unfold brokenS at hb
 by_cases h0 : p < s.length
 ·rw [if_pos h0] at hb
  have hd := dg_drop h0
  have hdc := dec_dc s p
  have hpos : 1 ≤ (dec s p).2 := by rw [hdc]; exact dc_pos _
  have hle : (dec s p).2 ≤ s.length - p := by
   rw [hdc]
   have := dc_le (s := s.drop p) (by intro e; have := congrArg List.length e; rw [List.length_drop] at this; simp at this; omega)
   rwa [List.length_drop] at this
  have s1 : ((p : Int) ≤ (s.length : Int)) = True := eq_true (by omega)
  have s2 : s.take s.length = s := List.take_length
  have s3 : ((0 : Int) ≤ (p : Int)) = True := eq_true (by omega)
  generalize hD : dec s p = D at *
  obtain ⟨c,n⟩ := D
  have he : Ev (envN code pr) 35 H.length [.d (.str (s.drop p))] (H ++ [.siter s (p + n)]) (.tuple [.d (.int .i32 (c : Nat)),intD (n : Nat)]) (H ++ [.siter s (p + n)]) := by
   have := dec_ev (pr := pr) H.length (H ++ [.siter s (p + n)]) (s.drop p)
   rwa [hd] at this
  have next : ∀ {st : St},brokenN s = brokenS s f (p + n) → (∃ x : Nat → AV,st = ⟨[.d (.str s),x 1,x 2,x 3,x 4,.ptr H.length 0,x 6,x 7,x 8,x 9,x 10,x 11],H ++ [.siter s (p + n)]⟩) →
    ∃ m,m < s.length - p ∧ ∃ p f,p ≤ s.length ∧ m = s.length - p ∧ s.length - p < f ∧ brokenN s = brokenS s f p ∧ ∃ x : Nat → AV,st = ⟨[.d (.str s),x 1,x 2,x 3,x 4,.ptr H.length 0,x 6,x 7,x 8,x 9,x 10,x 11],H ++ [.siter s p]⟩ :=
   fun h1 h2 => ⟨s.length - (p + n),by simp only at hpos hle; omega,p + n,f,by simp only at hpos hle; omega,rfl,by simp only at hpos hle; omega,h1,h2⟩
  simp only at hpos hle
  by_cases h1 : c = 65533
  ·subst h1
   have c1 : (((65533 : Nat) : Int) == 65533) = true := rfl
   by_cases h2 : n = 1
   ·subst h2
    rw [if_pos rfl] at hb
    have c2 : (((1 : Nat) : Int) == 1) = true := rfl
    refine w_r (j_ h0 (j_ hD c1)) ?_
    refine w_1 he (j_ s1 (j_ s2 s3)) ?_
    refine w_r c2 ?_
    exact ans_cut rfl rfl ⟨by rw [hb],rfl⟩
   ·rw [if_neg (by simpa using h2)] at hb
    have c2 : ((n : Int) == 1) = false := by simp; omega
    refine w_r (j_ h0 (j_ hD c1)) ?_
    refine w_1 he (j_ s1 (j_ s2 s3)) ?_
    refine w_r c2 ?_
    exact next hb (ex_st _ _ _ rfl)
  ·rw [if_neg (by simp [h1])] at hb
   have c1 : ((c : Int) == 65533) = false := by simp; omega
   refine w_r (j_ h0 (j_ hD c1)) ?_
   exact next hb (ex_st _ _ _ rfl)
 ·rw [if_neg h0] at hb
  refine w_r h0 ?_
  exact ans_cut rfl rfl ⟨by rw [hb],rfl⟩
end Go.Proofs.YtmhmjlfajlpabaaDoor
namespace Go.Proofs.YtmhmjlfajlpabaaDoor
open Go Go.Abs
theorem bless : ∀ (x y : List UInt8),Op.bytesLess x y = decide (x < y)
 | [],[] => by simp [Op.bytesLess]
 | _ :: _,[] => by simp [Op.bytesLess]
 | [],_ :: _ => by simp [Op.bytesLess]
 | a :: x,b :: y => by
  rw [Op.bytesLess,bless x y]
  simp only [List.cons_lt_cons_iff]
  by_cases h1 : a < b <;> by_cases h2 : a = b <;> by_cases h3 : x < y <;> simp [h1,h2,h3]
theorem tless_iff (a b : Tx) : tless a b = true ↔ a < b := by rw [tless,bless]; simp
abbrev keyAt (ks : List Tx) (i : Nat) : Tx := ks.getD i []
theorem insK_perm (ks : List Tx) (i : Nat) : ∀ l : List Nat,(insK ks i l).Perm (i :: l)
 | [] => .refl _
 | j :: l => by
  unfold insK
  split
  ·exact ((insK_perm ks i l).cons j).trans (.swap i j l)
  ·exact .refl _
theorem sortK_perm (ks : List Tx) : ∀ l : List Nat,(sortK ks l).Perm l
 | [] => .refl _
 | i :: l => (insK_perm ks i _).trans ((sortK_perm ks l).cons i)
abbrev leK (ks : List Tx) (i j : Nat) : Prop := ¬ keyAt ks j < keyAt ks i
theorem leK_trans {ks : List Tx} {i j k : Nat} (h1 : leK ks i j) (h2 : leK ks j k) : leK ks i k := by
 unfold leK at *
 rw [List.not_lt] at *
 exact List.le_trans h1 h2
theorem insK_sorted (ks : List Tx) (i : Nat) : ∀ l : List Nat,l.Pairwise (leK ks) → (insK ks i l).Pairwise (leK ks)
 | [],_ => by simp [insK]
 | j :: l,h => by
  unfold insK
  obtain ⟨h1,h2⟩ := List.pairwise_cons.1 h
  split
  ·rename_i hc
   rw [tless_iff] at hc
   refine List.pairwise_cons.2 ⟨fun k hk => ?_,insK_sorted ks i l h2⟩
   rcases List.mem_cons.1 ((insK_perm ks i l).mem_iff.1 hk) with rfl | hk
   ·exact fun h => List.lt_irrefl _ (List.lt_trans h hc)
   ·exact h1 k hk
  ·rename_i hc
   rw [tless_iff] at hc
   refine List.pairwise_cons.2 ⟨fun k hk => ?_,h⟩
   rcases List.mem_cons.1 hk with rfl | hk
   ·exact hc
   ·exact leK_trans hc (h1 k hk)
theorem sortK_sorted (ks : List Tx) : ∀ l : List Nat,(sortK ks l).Pairwise (leK ks)
 | [] => by simp [sortK]
 | i :: l => insK_sorted ks i _ (sortK_sorted ks l)
theorem byKeys_perm (ks : List Tx) : (byKeys ks).Perm (List.range ks.length) := sortK_perm ks _
theorem byKeys_length (ks : List Tx) : (byKeys ks).length = ks.length := by rw [(byKeys_perm ks).length_eq,List.length_range]
theorem byKeys_mem {ks : List Tx} {i : Nat} : i ∈ byKeys ks ↔ i < ks.length := by rw [(byKeys_perm ks).mem_iff,List.mem_range]
theorem byKeys_lt {ks : List Tx} {i : Nat} (h : i ∈ byKeys ks) : i < ks.length := byKeys_mem.1 h
theorem byKeys_nodup (ks : List Tx) : (byKeys ks).Nodup := (byKeys_perm ks).nodup_iff.2 List.nodup_range
theorem keyAt_inj {ks : List Tx} (hd : ks.Nodup) {i j : Nat} (hi : i < ks.length) (hj : j < ks.length) (h : keyAt ks i = keyAt ks j) : i = j := by
 simp only [keyAt,List.getD,List.getElem?_eq_getElem hi,List.getElem?_eq_getElem hj,Option.getD_some] at h
 exact (List.getElem?_inj hi hd).1 (by rw [List.getElem?_eq_getElem hi,List.getElem?_eq_getElem hj,h])
theorem leK_anti {ks : List Tx} (hd : ks.Nodup) {i j : Nat} (hi : i < ks.length) (hj : j < ks.length) (h1 : leK ks i j) (h2 : leK ks j i) : i = j := by
 refine keyAt_inj hd hi hj ?_
 unfold leK at h1 h2
 rw [List.not_lt] at h1 h2
 exact List.le_antisymm h1 h2
theorem byKeys_unique {ks : List Tx} (hd : ks.Nodup) {l : List Nat} (hp : l.Perm (List.range ks.length)) (hs : l.Pairwise (leK ks)) : l = byKeys ks := by
 refine List.Perm.eq_of_pairwise (le := leK ks) (fun a b ha hb h1 h2 => ?_) hs (sortK_sorted ks _) (hp.trans (byKeys_perm ks).symm)
 exact leK_anti hd (List.mem_range.1 (hp.mem_iff.1 ha)) (byKeys_lt hb) h1 h2
theorem nless_iff (a b : Tx) : (!tless b a) = true ↔ ¬ b < a := by rw [← tless_iff]; cases tless b a <;> simp
theorem byKeys_merge {ks : List Tx} (hd : ks.Nodup) : (List.range ks.length).mergeSort (fun i j => !tless (keyAt ks j) (keyAt ks i)) = byKeys ks := by
 refine byKeys_unique hd (List.mergeSort_perm _ _) ?_
 have := List.pairwise_mergeSort (le := fun i j => !tless (keyAt ks j) (keyAt ks i)) (fun a b c h1 h2 => ?_) (fun a b => ?_) (List.range ks.length)
 ·exact this.imp fun {a b} h => (nless_iff _ _).1 h
 ·exact (nless_iff _ _).2 (leK_trans (ks := ks) (i := a) (j := b) (k := c) ((nless_iff _ _).1 h1) ((nless_iff _ _).1 h2))
 ·rw [Bool.or_eq_true,nless_iff,nless_iff]
  by_cases h : keyAt ks b < keyAt ks a
  ·exact .inr fun h2 => List.lt_irrefl _ (List.lt_trans h h2)
  ·exact .inl h
theorem byKeys_grow {ks : List Tx} (hd : ks.Nodup) : (byKeys ks).Pairwise fun i j => keyAt ks i < keyAt ks j := by
 have h1 := sortK_sorted ks (List.range ks.length)
 have h2 := byKeys_nodup ks
 have h3 : (byKeys ks).Pairwise fun i j => leK ks i j ∧ i ≠ j ∧ i < ks.length ∧ j < ks.length := by
  rw [List.pairwise_iff_getElem] at h1 ⊢
  intro i j hi hj hij
  refine ⟨h1 i j hi hj hij,fun e => ?_,byKeys_lt (List.getElem_mem _),byKeys_lt (List.getElem_mem _)⟩
  exact Nat.ne_of_lt hij ((List.getElem?_inj hi h2).1 (by rw [List.getElem?_eq_getElem hi,List.getElem?_eq_getElem hj,e]))
 refine h3.imp fun {i j} ⟨q1,q2,q3,q4⟩ => ?_
 by_cases h : keyAt ks i < keyAt ks j
 ·exact h
 ·exact absurd (leK_anti hd q3 q4 q1 h) q2
variable {pr : FuncId → Option AFun} {pP : FuncId → Option PFun} [POK pr] [PPOK pr pP]
theorem strsOf_map : ∀ ks : List Tx,strsOf (ks.map D.str) = some ks
 | [] => rfl
 | k :: ks => by
  show (strsOf (ks.map D.str)).map (fun r => k :: r) = _
  rw [strsOf_map ks]; rfl
def rowI (n i : Nat) : List AV := (List.range n).map fun j => if j < i then intD (j : Nat) else intD 0
theorem rowI_len (n i : Nat) : (rowI n i).length = n := by simp [rowI]
theorem rowI_zero (n : Nat) : (List.replicate n [intD 0]).flatten = rowI n 0 := by
 apply List.ext_getElem
 ·simp [rowI,List.length_flatten]
 ·intro i h1 h2
  simp [rowI]
theorem rowI_all (n : Nat) : rowI n n = (List.range n).map fun (j : Nat) => intD (j : Int) := by
 unfold rowI
 apply List.map_congr_left
 intro j hj
 rw [if_pos (List.mem_range.1 hj)]
theorem rowI_set {n i : Nat} (h : i < n) : splice (rowI n i) i [intD (i : Nat)] = rowI n (i + 1) := by
 unfold splice
 apply List.ext_getElem?
 intro j
 have hl : ((rowI n i).take i).length = i := by simp [rowI]; omega
 by_cases h1 : j < i
 ·rw [List.getElem?_append_left (by omega),List.getElem?_take,if_pos h1]
  simp only [rowI,List.getElem?_map]
  rw [List.getElem?_range (by omega)]
  simp [h1,show j < i + 1 by omega]
 ·rw [List.getElem?_append_right (by omega),hl]
  by_cases h2 : j = i
  ·subst h2
   simp [rowI,h]
  ·rw [List.getElem?_append_right (by simp; omega),List.getElem?_drop,show i + [intD (i : Nat)].length + (j - i - [intD (i : Nat)].length) = j by simp; omega]
   simp only [rowI,List.getElem?_map]
   by_cases h3 : j < n
   ·rw [List.getElem?_range h3]
    simp [h1,show ¬ j < i + 1 by omega]
   ·rw [List.getElem?_eq_none (by simp; omega)]; rfl
theorem chunks_ints : ∀ (l : List Nat) (R : List AV),chunks 1 false l.length (l.map (fun (i : Nat) => intD (i : Int)) ++ R) = some (l.map fun (i : Nat) => D.int .i64 (i : Int))
 | [],_ => rfl
 | a :: l,R => by
  have := chunks_ints l R
  simp only [List.map_cons,List.cons_append,List.length_cons,chunks,List.take_succ_cons,List.take_zero,AV.toDs,AV.toD,List.drop_succ_cons,List.drop_zero,this]
  rfl
theorem places_ev (lim : Nat) (H : AHeap) (ks : List Tx) (hk : ks.length < 1000000000000) (hd : ks.Nodup) : Ev (envN code pr) 44 lim [.d (sD ks)] H (.d (.slice ((byKeys ks).map fun (i : Nat) => D.int .i64 (i : Int)))) H := by
 refine Fn.ev ?_
 refine Fn_of (pn rfl) rfl (show code 44 = some c44 from rfl) rfl ?_; simp only [List.length_cons,List.length_nil,List.cons_append,List.nil_append,simprocAttr]
 have e0 := rowI_zero ks.length
 have c1 : ((ks.length : Int) * 8 ≤ 281474976710656) = True := eq_true (by omega)
 have c2 : ((ks.length : Int) ≤ 281474976710656) = True := eq_true (by omega)
 have a1 : (H ++ [AObj.cells [.d (sD ks)]]).length = H.length + 1 := by simp
 have a2 : ∀ o,H ++ [AObj.cells [.d (sD ks)]] ++ [o] = H ++ [AObj.cells [.d (sD ks)],o] := fun o => by simp
 (iterate 4 refine w_s (j_ (@List.length_map.{0,0}) (j_ e0 (j_ c1 (j_ c2 (j_ a1 a2))))) ?_)
 have g1 : ∀ o : AObj,(H ++ [AObj.cells [.d (sD ks)],o])[H.length + 1]? = some o := fun o => by rw [List.getElem?_append_right (by omega)]; simp
 have g0 : ∀ o : AObj,(H ++ [AObj.cells [.d (sD ks)],o])[H.length]? = some (.cells [.d (sD ks)]) := fun o => by rw [List.getElem?_append_right (by omega)]; simp
 have s1 : ∀ o o' : AObj,(H ++ [AObj.cells [.d (sD ks)],o]).set (H.length + 1) o' = H ++ [AObj.cells [.d (sD ks)],o'] := fun o o' => by rw [List.set_append_right _ _ (by omega)]; simp
 have hll : H.length ≤ H.length + 1 := by omega
 (iterate 4 refine w_s trivial ?_)
 refine W_lp (fun k st => ∃ i : Nat,i ≤ ks.length ∧ k = ks.length - i ∧ ∃ x : Nat → AV,st = ⟨[x 0,x 1,x 2,.ptr H.length 0,.oslice (H.length + 1) 0 ks.length ks.length 1,intD ks.length,intD i,x 7,x 8,x 9],H ++ [AObj.cells [.d (sD ks)],.cells (rowI ks.length i)]⟩) ?_ _ _ ⟨0,Nat.zero_le _,rfl,ex_st _ _ _ rfl⟩
 rintro k _ ⟨i,hi,rfl,x,rfl⟩
 by_cases t0 : i < ks.length
 ·have f1 : ((i : Int) < (ks.length : Int)) = True := eq_true (by omega)
  have w1 : IntKind.i64.wrap ((i : Int) + 1) = ((i + 1 : Nat) : Int) := wsucc (by omega)
  have hs := rowI_set t0
  have hl := rowI_len ks.length i
  have hl2 : i + 1 ≤ ks.length := t0
  simp only [splice,List.length_cons,List.length_nil,Nat.zero_add,List.cons_append,List.nil_append] at hs
  generalize rowI ks.length i = R at *
  refine w_r (j_ f1 (j_ g1 (j_ s1 (j_ w1 (j_ hs (j_ hl (j_ hl2 (j_ hll @Nat.mul_one)))))))) ?_
  exact ⟨ks.length - (i + 1),by omega,i + 1,t0,rfl,ex_st _ _ _ rfl⟩
 ·obtain rfl : i = ks.length := by omega
  have f1 : ((ks.length : Int) < (ks.length : Int)) = False := eq_false (by omega)
  have es : Ev (envN code pr) 62 H.length [.oslice (H.length + 1) 0 ks.length ks.length 1,.func (.func 63) [.ptr H.length 0]] (H ++ [AObj.cells [.d (sD ks)],.cells (rowI ks.length ks.length)]) (.tuple []) (H ++ [AObj.cells [.d (sD ks)],.cells ((byKeys ks).map fun (i : Nat) => intD (i : Int))]) := by
   refine Ev_prim (F := sortF) POK.sort ?_
   have hc : H.length ≤ H.length + 1 ∧ H.length + 1 ≠ H.length ∧ True ∧ ks.length < 1000000000000 ∧ ks.Nodup ∧ (rowI ks.length ks.length).length = ks.length ∧ AObj.beq (.cells (rowI ks.length ks.length)) (.cells ((List.range ks.length).map fun (i : Nat) => intD (i : Int))) = true := by
    refine ⟨hll,by omega,trivial,hk,hd,rowI_len _ _,?_⟩
    rw [rowI_all]; exact AV.beqs_self _
   simp only [sortF,g1,g0,strsOf_map,if_pos hc,s1]
  have ch := chunks_ints (byKeys ks) []
  rw [List.append_nil,byKeys_length] at ch
  refine w_r f1 ?_
  refine w_1 es trivial ?_
  refine w_r trivial ?_
  refine ans_cut (vs := [.oslice (H.length + 1) 0 ks.length ks.length 1]) rfl ?_ ⟨rfl,rfl⟩
  have hc2 : H.length ≤ H.length + 1 ∧ 0 < 1 := ⟨hll,by omega⟩
  simp only [oneOf,Go.Abs.freeze,if_pos hc2,g1,List.drop_zero]
  rw [if_pos (by simp [byKeys_length]),show (1 != 1) = false from rfl,ch]
  rfl
end Go.Proofs.YtmhmjlfajlpabaaDoor
namespace Go.Proofs.YtmhmjlfajlpabaaDoor
open Go Go.Abs
theorem one_more {H : AHeap} {r : Nat} {o : AObj} (gr : H[r]? = some o) (B : AObj) : ∃ KK : AObj → AObj → AHeap,(∀ x y,KK x y = H.set r x ++ [y]) ∧ KK o B = H ++ [B] ∧ (∀ x y,(KK x y)[r]? = some x) ∧ (∀ x y,(KK x y)[H.length]? = some y) ∧
  (∀ x x' y,(KK x y).set r x' = KK x' y) ∧ (∀ x y y',(KK x y).set H.length y' = KK x y') ∧ r ≤ H.length := by
 obtain ⟨hr,e⟩ := List.getElem?_eq_some_iff.1 gr
 refine ⟨fun x y => H.set r x ++ [y],fun _ _ => rfl,?_,fun x y => ?_,fun x y => ?_,fun x x' y => ?_,fun x y y' => ?_,?_⟩
 ·simp only; rw [← e,List.set_getElem_self hr]
 ·simp only; rw [List.getElem?_append_left (by simpa using hr)]; simp [hr]
 ·simp only; rw [List.getElem?_append_right (by simp)]; simp
 ·simp only; rw [List.set_append_left _ _ (by simpa using hr),List.set_set]
 ·simp only; rw [List.set_append_right _ _ (by simp)]; simp
 ·exact Nat.le_of_lt hr
def firstS (s : Tx) (p : Nat) : Nat := if nx s p = 45 then p + 1 else p
theorem nx_lt {s : Tx} {p : Nat} (h : nx s p ≠ 0) : p < s.length := by
 rcases Nat.lt_or_ge p s.length with h1 | h1
 ·exact h1
 ·exact absurd (nx_end h1) h
theorem number_eq (s : Tx) (p : Nat) : numberS s p = if isDigit (nx s (firstS s p)) then match digitsS s (firstS s p) (s.length + 1) 0 (firstS s p) with
  | .error e => .error e
  | .ok (n,q) => if 9007199254740991 < n ∨ nx s q = 46 ∨ nx s q = 101 ∨ nx s q = 69 then .error (15,p)
   else .ok (.mk 2 (if p < firstS s p then -(n : Int) else n) [] [] [],q)
 else .error (11,firstS s p) := rfl
abbrev zC : AObj := .cells [intD 0,intD 0,.d (.str []),.fslice [],.fslice []]
theorem number_ev (lim : Nat) (H : AHeap) (r : Nat) (s : Tx) (p : Nat) (gr : H[r]? = some (rdO s p)) (hl : lim ≤ r) (hs : s.length ≤ 16384) (hp : p ≤ s.length) :
  Fv X0 XP 43 lim [.ptr r 0] H (fun v H' => ∃ j q,numberS s p = .ok (j,q) ∧ v = .d j.d ∧ H' = H.set r (rdO s q)) (fun z => ∃ e,numberS s p = .error e ∧ z = stopP e.1 e.2) := by
 refine Fv_ofC (pn rfl) rfl (by first | exact rfl | exact pnP (pr := prims0) rfl) rfl (show code 43 = some c43 from rfl) rfl ?_; simp only [List.length_cons,List.length_nil,List.cons_append,List.nil_append,simprocAttr]
 obtain ⟨KK,kk0,kk1,kk2,kk3,kk4,kk5,hrl⟩ := one_more gr zC
 have hll := Nat.le_trans hl hrl
 (iterate 2 refine v_s trivial ?_)
 rw [← kk1]
 (iterate 2 refine v_s kk2 ?_)
 refine V_mid (fun st => ∃ x : Nat → AV,st = ⟨[.ptr r 0,x 1,x 2,x 3,x 4,x 5,x 6,x 7,.ptr H.length 0,intD p,x 10,x 11,x 12,x 13,x 14,x 15],KK (rdO s (firstS s p)) zC⟩) ?_ ?_
 ·have wp : IntKind.i64.wrap ((p : Int) + 1) = ((p + 1 : Nat) : Int) := wpos (by omega)
  by_cases h : nx s p = 45
  ·have hf : firstS s p = p + 1 := if_pos h
   have c1 : (((nx s p).toNat : Int) == 45) = true := u8_t h rfl
   rw [hf]
   refine v_r trivial ?_
   (apply V_drw; focus (refine Evl.call (X := X0) (next_ev lim (KK (rdO s p) zC) r s p (kk2 _ _) hp) (Evl.all fun k e1 => ?_); simp (maxSteps := 100000000) only [zz,zd,simprocAttr,c1,e1]; (first | done | with_reducible exact rfl))) <;> (try simp only [zp,simprocAttr])
   refine v_r (j_ kk2 (j_ kk4 (j_ wp hl))) ?_
   exact ex_st _ _ _ rfl
  ·have hf : firstS s p = p := if_neg h
   have c1 : (((nx s p).toNat : Int) == 45) = false := u8_f h rfl
   rw [hf]
   refine v_r trivial ?_
   (apply V_drw; focus (refine Evl.call (X := X0) (next_ev lim (KK (rdO s p) zC) r s p (kk2 _ _) hp) (Evl.all fun k e1 => ?_); simp (maxSteps := 100000000) only [zz,zd,simprocAttr,c1,e1]; (first | done | with_reducible exact rfl))) <;> (try simp only [zp,simprocAttr])
   refine v_r trivial ?_
   exact ex_st _ _ _ rfl
 rintro _ ⟨x,rfl⟩
 have hfl : firstS s p ≤ s.length ∧ p ≤ firstS s p := by
  unfold firstS
  split
  ·rename_i h; have := nx_lt (s := s) (p := p) (by rw [h]; decide); omega
  ·omega
 rw [number_eq]
 generalize hf : firstS s p = f at hfl ⊢
 cases hd : isDigit (nx s f) with
 | false =>
  refine v_r kk2 ?_
  (apply V_drw; focus (refine Evl.call (X := X0) (next_ev lim (KK (rdO s f) zC) r s f (kk2 _ _) hfl.1) (Evl.call (X := X0) (digit_ev lim (KK (rdO s f) zC) (nx s f)) (Evl.all fun k e2 e1 => ?_)); simp (maxSteps := 100000000) only [zz,zd,simprocAttr,hd,e2,e1]; (first | done | with_reducible exact rfl))) <;> (try simp only [zp,simprocAttr])
  refine v_r trivial ?_
  refine V_region ?_; apply VO_take 3; (focus (intro _; simp only [zz,simprocAttr,kk2]; (first | done | with_reducible exact rfl))); simp only [List.drop_succ_cons,List.drop_zero]; refine VO_call rfl ?_; simp only [zz,simprocAttr]
  exact EvP.fv (stop_ev _ _ r 11 f) ⟨_,rfl,rfl⟩
 | true =>
  refine v_r kk2 ?_
  (apply V_drw; focus (refine Evl.call (X := X0) (next_ev lim (KK (rdO s f) zC) r s f (kk2 _ _) hfl.1) (Evl.call (X := X0) (digit_ev lim (KK (rdO s f) zC) (nx s f)) (Evl.all fun k e2 e1 => ?_)); simp (maxSteps := 100000000) only [zz,zd,simprocAttr,hd,e2,e1]; (first | done | with_reducible exact rfl))) <;> (try simp only [zp,simprocAttr])
  refine v_r trivial ?_
  refine V_lp (fun m st => ∃ n q,f ≤ q ∧ q ≤ s.length ∧ m = s.length - q ∧ n ≤ 90071992547409919 ∧ digitsS s f (s.length + 1) 0 f = digitsS s f (s.length + 1 - (q - f)) n q ∧ ∃ x : Nat → AV,st = ⟨[.ptr r 0,x 1,x 2,x 3,x 4,x 5,x 6,x 7,.ptr H.length 0,intD p,intD f,intD n,x 12,x 13,x 14,x 15],KK (rdO s q) zC⟩) ?_ _ _ ⟨0,f,Nat.le_refl _,hfl.1,rfl,by omega,by rw [Nat.sub_self]; rfl,ex_st _ _ _ rfl⟩
  rintro m _ ⟨n,q,hq1,hq2,rfl,hn,hdg,x,rfl⟩
  cases hd2 : isDigit (nx s q) with
  | true =>
   have hql : q < s.length := nx_lt fun h => by rw [h] at hd2; cases hd2
   have hstep : digitsS s f (s.length + 1 - (q - f)) n q = if q = f + 1 ∧ nx s f = 48 then .error (11,q) else digitsS s f (s.length + 1 - (q + 1 - f)) (if n ≤ 9007199254740991 then 10 * n + ((nx s q).toNat - 48) else n) (q + 1) := by
    rw [show s.length + 1 - (q - f) = (s.length + 1 - (q + 1 - f)) + 1 by omega]
    conv => lhs; unfold digitsS
    rw [hd2,if_pos rfl]
   refine v_r trivial ?_
   (apply V_drw; focus (refine Evl.call (X := X0) (next_ev lim (KK (rdO s q) zC) r s q (kk2 _ _) hq2) (Evl.call (X := X0) (digit_ev lim (KK (rdO s q) zC) (nx s q)) (Evl.all fun k e2 e1 => ?_)); simp (maxSteps := 100000000) only [zz,zd,simprocAttr,hd2,e2,e1]; (first | done | with_reducible exact rfl))) <;> (try simp only [zp,simprocAttr])
   have hdd := hd2
   rw [dig_eq,Bool.and_eq_true,decide_eq_true_eq,decide_eq_true_eq] at hdd
   have wf : IntKind.i64.wrap ((f : Int) + 1) = ((f + 1 : Nat) : Int) := wpos (by omega)
   have wq : IntKind.i64.wrap ((q : Int) + 1) = ((q + 1 : Nat) : Int) := wpos (by omega)
   have hfa := get_at (s := s) (p := f) (by omega)
   have gq := kk2 (rdO s q) zC
   by_cases z1 : q = f + 1 ∧ nx s f = 48
   ·have c1 : decide (q = f + 1) = true := decide_eq_true z1.1
    have c2 : (((nx s f).toNat : Int) == 48) = true := u8_t z1.2 rfl
    rw [if_pos z1] at hstep
    (repeat ((first | refine V_sq ?_ | refine V_bk ?_ | refine V_ret ?_ | refine V_exit ?_ | refine V_skip ?_ | (apply V_rg; focus (intro _; simp only [zz,simprocAttr,gq,wf,p_eq,c1,c2,hfa,byteD']; (first | done | with_reducible exact rfl))) | (refine V_cT ?_ ?_; focus (simp only [zp,simprocAttr]; done)) | (refine V_cF ?_ ?_; focus (simp only [zp,simprocAttr]; done))) <;> (try simp only [zp,simprocAttr])))
    refine V_region ?_; apply VO_take 3; (focus (intro _; simp only [zz,simprocAttr,gq]; (first | done | with_reducible exact rfl))); simp only [List.drop_succ_cons,List.drop_zero]; refine VO_call rfl ?_; simp only [zz,simprocAttr]
    exact EvP.fv (stop_ev _ _ r 11 q) ⟨_,by rw [hdg,hstep],rfl⟩
   rw [if_neg z1] at hstep
   have w1 : IntKind.u8.wrap (((nx s q).toNat : Int) - 48) = (((nx s q).toNat - 48 : Nat) : Int) := by
    rw [← u8w ((nx s q).toNat - 48) (by omega)]; congr 1; omega
   have w2 : IntKind.i64.wrap (((nx s q).toNat - 48 : Nat) : Int) = (((nx s q).toNat - 48 : Nat) : Int) := w64n _ (by omega)
   have next : ∀ {st : St} {n' : Nat},n' = (if n ≤ 9007199254740991 then 10 * n + ((nx s q).toNat - 48) else n) → (∃ x : Nat → AV,st = ⟨[.ptr r 0,x 1,x 2,x 3,x 4,x 5,x 6,x 7,.ptr H.length 0,intD p,intD f,intD n',x 12,x 13,x 14,x 15],KK (rdO s (q + 1)) zC⟩) →
     ∃ m,m < s.length - q ∧ ∃ n q,f ≤ q ∧ q ≤ s.length ∧ m = s.length - q ∧ n ≤ 90071992547409919 ∧ digitsS s f (s.length + 1) 0 f = digitsS s f (s.length + 1 - (q - f)) n q ∧ ∃ x : Nat → AV,st = ⟨[.ptr r 0,x 1,x 2,x 3,x 4,x 5,x 6,x 7,.ptr H.length 0,intD p,intD f,intD n,x 12,x 13,x 14,x 15],KK (rdO s q) zC⟩ := fun hn' hst =>
    ⟨s.length - (q + 1),by omega,_,q + 1,by omega,by omega,rfl,by rw [hn']; split <;> omega,by rw [hdg,hstep,hn'],hst⟩
   by_cases z2 : q = f + 1
   ·have z3 : nx s f ≠ 48 := fun h => z1 ⟨z2,h⟩
    have c1 : decide (q = f + 1) = true := decide_eq_true z2
    have c2 : (((nx s f).toNat : Int) == 48) = false := u8_f z3 rfl
    by_cases z4 : n ≤ 9007199254740991
    ·have c3 : decide ((n : Int) ≤ 9007199254740991) = true := by simp; omega
     have w3 : IntKind.i64.wrap (10 * (n : Int)) = ((10 * n : Nat) : Int) := by rw [w64 (by omega) (by omega)]; omega
     have w4 : IntKind.i64.wrap (((10 * n : Nat) : Int) + (((nx s q).toNat - 48 : Nat) : Int)) = ((10 * n + ((nx s q).toNat - 48) : Nat) : Int) := by rw [w64 (by omega) (by omega)]; omega
     (repeat ((first | refine V_sq ?_ | refine V_bk ?_ | refine V_ret ?_ | refine V_exit ?_ | refine V_skip ?_ | (apply V_rg; focus (intro _; simp only [zz,simprocAttr,gq,wf,p_eq,c1,c2,c3,hfa,byteD']; (first | done | with_reducible exact rfl))) | (refine V_cT ?_ ?_; focus (simp only [zp,simprocAttr]; done)) | (refine V_cF ?_ ?_; focus (simp only [zp,simprocAttr]; done))) <;> (try simp only [zp,simprocAttr])))
     (apply V_drw; focus (refine Evl.call (X := X0) (next_ev lim (KK (rdO s q) zC) r s q (kk2 _ _) hq2) (Evl.all fun k e1 => ?_); simp (maxSteps := 100000000) only [zz,zd,simprocAttr,w1,w2,w3,w4,e1]; (first | done | with_reducible exact rfl))) <;> (try simp only [zp,simprocAttr])
     refine v_r (j_ gq (j_ wq (j_ kk4 hl))) ?_
     exact next (by rw [if_pos z4]) (ex_st _ _ _ rfl)
    ·have c3 : decide ((n : Int) ≤ 9007199254740991) = false := by simp; omega
     (repeat ((first | refine V_sq ?_ | refine V_bk ?_ | refine V_ret ?_ | refine V_exit ?_ | refine V_skip ?_ | (apply V_rg; focus (intro _; simp only [zz,simprocAttr,gq,wf,p_eq,c1,c2,c3,hfa,byteD',wq,kk4,hl]; (first | done | with_reducible exact rfl))) | (refine V_cT ?_ ?_; focus (simp only [zp,simprocAttr]; done)) | (refine V_cF ?_ ?_; focus (simp only [zp,simprocAttr]; done))) <;> (try simp only [zp,simprocAttr])))
     exact next (by rw [if_neg z4]) (ex_st _ _ _ rfl)
   ·have c1 : decide (q = f + 1) = false := decide_eq_false z2
    by_cases z4 : n ≤ 9007199254740991
    ·have c3 : decide ((n : Int) ≤ 9007199254740991) = true := by simp; omega
     have w3 : IntKind.i64.wrap (10 * (n : Int)) = ((10 * n : Nat) : Int) := by rw [w64 (by omega) (by omega)]; omega
     have w4 : IntKind.i64.wrap (((10 * n : Nat) : Int) + (((nx s q).toNat - 48 : Nat) : Int)) = ((10 * n + ((nx s q).toNat - 48) : Nat) : Int) := by rw [w64 (by omega) (by omega)]; omega
     (repeat ((first | refine V_sq ?_ | refine V_bk ?_ | refine V_ret ?_ | refine V_exit ?_ | refine V_skip ?_ | (apply V_rg; focus (intro _; simp only [zz,simprocAttr,gq,wf,p_eq,c1,c3]; (first | done | with_reducible exact rfl))) | (refine V_cT ?_ ?_; focus (simp only [zp,simprocAttr]; done)) | (refine V_cF ?_ ?_; focus (simp only [zp,simprocAttr]; done))) <;> (try simp only [zp,simprocAttr])))
     (apply V_drw; focus (refine Evl.call (X := X0) (next_ev lim (KK (rdO s q) zC) r s q (kk2 _ _) hq2) (Evl.all fun k e1 => ?_); simp (maxSteps := 100000000) only [zz,zd,simprocAttr,w1,w2,w3,w4,e1]; (first | done | with_reducible exact rfl))) <;> (try simp only [zp,simprocAttr])
     refine v_r (j_ gq (j_ wq (j_ kk4 hl))) ?_
     exact next (by rw [if_pos z4]) (ex_st _ _ _ rfl)
    ·have c3 : decide ((n : Int) ≤ 9007199254740991) = false := by simp; omega
     (repeat ((first | refine V_sq ?_ | refine V_bk ?_ | refine V_ret ?_ | refine V_exit ?_ | refine V_skip ?_ | (apply V_rg; focus (intro _; simp only [zz,simprocAttr,gq,wf,p_eq,c1,c3,wq,kk4,hl]; (first | done | with_reducible exact rfl))) | (refine V_cT ?_ ?_; focus (simp only [zp,simprocAttr]; done)) | (refine V_cF ?_ ?_; focus (simp only [zp,simprocAttr]; done))) <;> (try simp only [zp,simprocAttr])))
     exact next (by rw [if_neg z4]) (ex_st _ _ _ rfl)
  | false =>
   have hend : digitsS s f (s.length + 1 - (q - f)) n q = .ok (n,q) := by
    rw [show s.length + 1 - (q - f) = (s.length - (q - f)) + 1 by omega]
    unfold digitsS
    rw [hd2]; rfl
   rw [hdg,hend]
   simp only
   have gq := kk2 (rdO s q) zC
   refine v_r trivial ?_
   (apply V_drw; focus (refine Evl.call (X := X0) (next_ev lim (KK (rdO s q) zC) r s q (kk2 _ _) hq2) (Evl.call (X := X0) (digit_ev lim (KK (rdO s q) zC) (nx s q)) (Evl.all fun k e2 e1 => ?_)); simp (maxSteps := 100000000) only [zz,zd,simprocAttr,hd2,e2,e1]; (first | done | with_reducible exact rfl))) <;> (try simp only [zp,simprocAttr])
   refine v_r trivial ?_
   (apply V_drw; focus (refine Evl.call (X := X0) (next_ev lim (KK (rdO s q) zC) r s q (kk2 _ _) hq2) (Evl.all fun k e1 => ?_); simp (maxSteps := 100000000) only [zz,zd,simprocAttr,e1]; (first | done | with_reducible exact rfl))) <;> (try simp only [zp,simprocAttr])
   by_cases b1 : 9007199254740991 < n
   ·have c1 : decide ((n : Int) > 9007199254740991) = true := by simp; omega
    refine v_r c1 ?_
    refine V_region ?_; refine VO_call rfl ?_; simp only [zz,simprocAttr]
    exact EvP.fv (stop_ev _ _ r 15 p) ⟨_,by rw [if_pos (.inl b1)],rfl⟩
   have c1 : decide ((n : Int) > 9007199254740991) = false := by simp; omega
   by_cases b2 : nx s q = 46
   ·have c2 : (((nx s q).toNat : Int) == 46) = true := u8_t b2 rfl
    refine v_r (j_ c1 c2) ?_
    refine V_region ?_; refine VO_call rfl ?_; simp only [zz,simprocAttr]
    exact EvP.fv (stop_ev _ _ r 15 p) ⟨_,by rw [if_pos (.inr (.inl b2))],rfl⟩
   have c2 : (((nx s q).toNat : Int) == 46) = false := u8_f b2 rfl
   by_cases b3 : nx s q = 101
   ·have c3 : (((nx s q).toNat : Int) == 101) = true := u8_t b3 rfl
    refine v_r (j_ c1 (j_ c2 c3)) ?_
    refine V_region ?_; refine VO_call rfl ?_; simp only [zz,simprocAttr]
    exact EvP.fv (stop_ev _ _ r 15 p) ⟨_,by rw [if_pos (.inr (.inr (.inl b3)))],rfl⟩
   have c3 : (((nx s q).toNat : Int) == 101) = false := u8_f b3 rfl
   by_cases b4 : nx s q = 69
   ·have c4 : (((nx s q).toNat : Int) == 69) = true := u8_t b4 rfl
    refine v_r (j_ c1 (j_ c2 (j_ c3 c4))) ?_
    refine V_region ?_; refine VO_call rfl ?_; simp only [zz,simprocAttr]
    exact EvP.fv (stop_ev _ _ r 15 p) ⟨_,by rw [if_pos (.inr (.inr (.inr b4)))],rfl⟩
   have c4 : (((nx s q).toNat : Int) == 69) = false := u8_f b4 rfl
   rw [if_neg (by rintro (h | h | h | h); exact b1 h; exact b2 h; exact b3 h; exact b4 h)]
   by_cases b5 : p < f
   ·have c5 : decide ((f : Int) > (p : Int)) = true := by simp; omega
    have wn : IntKind.i64.wrap (0 - (n : Int)) = -(n : Int) := by rw [w64 (by omega) (by omega)]; omega
    refine v_r (j_ c1 (j_ c2 (j_ c3 (j_ c4 (j_ c5 (j_ wn (j_ kk3 (j_ kk5 hll)))))))) ?_
    refine ans_drop (vs := [.d (flatD 2 (-(n : Int)))]) ?_ (kk0 _ _) (List.getElem?_eq_some_iff.1 gr).1 rfl rfl ⟨_,q,rfl,by rw [if_pos b5,jd]; rfl,rfl⟩
    simp only [resV,zz,simprocAttr,kk3]
   ·have c5 : decide ((f : Int) > (p : Int)) = false := by simp; omega
    refine v_r (j_ c1 (j_ c2 (j_ c3 (j_ c4 (j_ c5 (j_ kk3 (j_ kk5 hll))))))) ?_
    refine ans_drop (vs := [.d (flatD 2 (n : Int))]) ?_ (kk0 _ _) (List.getElem?_eq_some_iff.1 gr).1 rfl rfl ⟨_,q,rfl,by rw [if_neg b5,jd]; rfl,rfl⟩
    simp only [resV,zz,simprocAttr,kk3]
theorem more_eq (s : Tx) (first : Bool) (e : UInt8) (p : Nat) : moreS s first e p = if s[blanksS s p]? = some e then .ok (false,blanksS s p + 1)
 else if first then .ok (true,blanksS s p)
 else match wantS s 44 (blanksS s p) with
  | .error e => .error e
  | .ok q => .ok (true,blanksS s q) := rfl
theorem more_ev (lim : Nat) (H : AHeap) (r : Nat) (s : Tx) (p : Nat) (first : Bool) (e : UInt8) (he : e ≠ 0) (gr : H[r]? = some (rdO s p)) (hl : lim ≤ r) (hs : s.length ≤ 16384) (hp : p ≤ s.length) :
  Fv X0 XP 39 lim [.ptr r 0,boolD first,.d (.int .u8 e.toNat)] H (fun v H' => ∃ b q,moreS s first e p = .ok (b,q) ∧ v = boolD b ∧ H' = H.set r (rdO s q)) (fun z => ∃ x,moreS s first e p = .error x ∧ z = stopP x.1 x.2) := by
 rw [more_eq]
 have hb := blanks_le s p hp
 have ev := blanks_ev (pr := prims0) lim H r s p gr hl hp hs
 have gb := rd_set gr (blanksS s p)
 generalize blanksS s p = q at hb ev gb ⊢
 refine Fv_of (pn rfl) rfl (by first | exact rfl | exact pnP (pr := prims0) rfl) rfl (show code 39 = some c39 from rfl) rfl ?_; simp only [List.length_cons,List.length_nil,List.cons_append,List.nil_append,simprocAttr]
 refine v_r trivial ?_
 (apply V_drw; focus (refine Evl.call (X := X0) (ev) (Evl.all fun k e1 => ?_); simp (maxSteps := 100000000) only [zz,zd,simprocAttr,e1]; (first | done | with_reducible exact rfl))) <;> (try simp only [zp,simprocAttr])
 by_cases h : s[q]? = some e
 ·have hq := (List.getElem?_eq_some_iff.1 h).1
  have hn : nx s q = e := by have := get_at hq; rw [h] at this; exact (Option.some.inj this).symm
  have c1 : (((nx s q).toNat : Int) == (e.toNat : Int)) = true := by rw [hn]; simp
  have c2 : decide ((q : Int) < (s.length : Int)) = true := by simp; omega
  have wq : IntKind.i64.wrap ((q : Int) + 1) = ((q + 1 : Nat) : Int) := wpos (by omega)
  rw [if_pos h]
  refine v_r trivial ?_
  (apply V_drw; focus (refine Evl.call (X := X0) (next_ev lim (H.set r (rdO s q)) r s q gb hb.2) (Evl.all fun k e1 => ?_); simp (maxSteps := 100000000) only [zz,zd,simprocAttr,c1,c2,gb,e1]; (first | done | with_reducible exact rfl))) <;> (try simp only [zp,simprocAttr])
  (repeat ((first | refine V_sq ?_ | refine V_bk ?_ | refine V_ret ?_ | refine V_exit ?_ | refine V_skip ?_ | (apply V_rg; focus (intro _; simp only [zz,simprocAttr,gb,wq,hl,rd_set2]; (first | done | with_reducible exact rfl))) | (refine V_cT ?_ ?_; focus (simp only [zp,simprocAttr]; done)) | (refine V_cF ?_ ?_; focus (simp only [zp,simprocAttr]; done))) <;> (try simp only [zp,simprocAttr])))
  exact ans_keep rfl ⟨false,q + 1,rfl,rfl,rfl⟩
 ·have hn : nx s q ≠ e := fun hn => by
   have hq := nx_lt (s := s) (p := q) (by rw [hn]; exact he)
   exact h (by rw [get_at hq,hn])
  have c1 : (((nx s q).toNat : Int) == (e.toNat : Int)) = false := u8_f hn rfl
  rw [if_neg h]
  cases first with
  | true =>
   rw [if_pos rfl]
   refine v_r trivial ?_
   (apply V_drw; focus (refine Evl.call (X := X0) (next_ev lim (H.set r (rdO s q)) r s q gb hb.2) (Evl.all fun k e1 => ?_); simp (maxSteps := 100000000) only [zz,zd,simprocAttr,c1,e1]; (first | done | with_reducible exact rfl))) <;> (try simp only [zp,simprocAttr])
   refine v_r trivial ?_
   exact ans_keep rfl ⟨true,q,rfl,rfl,rfl⟩
  | false =>
   rw [if_neg (by simp)]
   refine v_r trivial ?_
   (apply V_drw; focus (refine Evl.call (X := X0) (next_ev lim (H.set r (rdO s q)) r s q gb hb.2) (Evl.all fun k e1 => ?_); simp (maxSteps := 100000000) only [zz,zd,simprocAttr,c1,e1]; (first | done | with_reducible exact rfl))) <;> (try simp only [zp,simprocAttr])
   refine v_r trivial ?_
   rcases want_cases s 44 q with ⟨h1,h2⟩ | ⟨h1,h2⟩
   ·rw [h2]
    have hq1 := (List.getElem?_eq_some_iff.1 h1).1
    have ew : Ev X0 57 lim [.ptr r 0,.d (.int .u8 44)] (H.set r (rdO s q)) (.tuple []) _ := want_ok lim (H.set r (rdO s q)) r s q 44 gb hl hs h1
    have eb := blanks_ev (pr := prims0) lim (H.set r (rdO s (q + 1))) r s (q + 1) (rd_set gr _) hl (by omega) hs
    rw [rd_set2] at ew eb
    (apply V_drw; focus (refine Evl.call (X := X0) (ew) (Evl.all fun k e1 => ?_); simp (maxSteps := 100000000) only [zz,zd,simprocAttr,e1]; (first | done | with_reducible exact rfl))) <;> (try simp only [zp,simprocAttr])
    refine v_r trivial ?_
    (apply V_drw; focus (refine Evl.call (X := X0) (eb) (Evl.all fun k e1 => ?_); simp (maxSteps := 100000000) only [zz,zd,simprocAttr,e1]; (first | done | with_reducible exact rfl))) <;> (try simp only [zp,simprocAttr])
    refine v_r trivial ?_
    exact ans_keep rfl ⟨true,_,rfl,rfl,rfl⟩
   ·rw [h2]
    refine V_region ?_; refine VO_call rfl ?_; simp only [zz,simprocAttr]
    exact EvP.fv (want_no lim _ r s q 44 gb hb.2 h1) ⟨_,rfl,rfl⟩
theorem text_ok {lim : Nat} {H : AHeap} {r : Nat} {s : Tx} {p : Nat} (gr : H[r]? = some (rdO s p)) (hl : lim ≤ r) (hs : s.length ≤ 16384) (hp : p ≤ s.length) {t : Tx} {q : Nat} (h : textS s p = .ok (t,q)) :
  Ev X0 41 lim [.ptr r 0] H (.d (.str t)) (H.set r (rdO s q)) := by
 refine Ev_prim (F := textF) rfl ?_
 have h0 : lim ≤ r ∧ (0 : Int) ≤ (p : Int) ∧ (p : Int) ≤ (s.length : Int) ∧ s.length ≤ 16384 := ⟨hl,by omega,by omega,hs⟩
 simp only [textF,gr,if_pos h0,Int.toNat_natCast,h]
theorem text_no {lim : Nat} {H : AHeap} {r : Nat} {s : Tx} {p : Nat} (gr : H[r]? = some (rdO s p)) (hl : lim ≤ r) (hs : s.length ≤ 16384) (hp : p ≤ s.length) {e : Nat × Nat} (h : textS s p = .error e) :
  EvP XP 41 lim [.ptr r 0] H (stopP e.1 e.2) := by
 refine EvP_prim (F := textPF) rfl rfl ?_
 have h0 : lim ≤ r ∧ (0 : Int) ≤ (p : Int) ∧ (p : Int) ≤ (s.length : Int) ∧ s.length ≤ 16384 := ⟨hl,by omega,by omega,hs⟩
 simp only [textPF,gr,if_pos h0,Int.toNat_natCast,h]
def ValueOK (f : Nat) : Prop := ∀ (lim : Nat) (H : AHeap) (r : Nat) (s : Tx) (p deep : Nat),H[r]? = some (rdO s p) → lim ≤ r → s.length ≤ 16384 → p ≤ s.length → deep ≤ 13 → 2 * (s.length - p) + 1 ≤ f →
 Fv X0 XP 25 lim [.ptr r 0,intD deep] H (fun v H' => ∃ j q,valueS s f deep p = .ok (j,q) ∧ v = .d j.d ∧ H' = H.set r (rdO s q)) (fun z => ∃ e,valueS s f deep p = .error e ∧ z = stopP e.1 e.2)
theorem begins_eq (c : UInt8) : begins c = ((((c.toNat : Int) != 0)) && (isDigit c || ([91,123,34,110,116,102,45] : Tx).contains c)) := by
 unfold begins
 simp only [List.contains_cons,List.contains_nil,Bool.or_false,Bool.or_assoc]
 by_cases h : c = 0
 ·subst h; rfl
 ·have : (((c.toNat : Int) != 0)) = true := by
   have := u8_f (c := c) (k := 0) (n := 0) h rfl
   simp [bne,this]
  rw [this,Bool.true_and]
theorem deep_eq (d : Nat) : decide ((d : Int) > 12) = decide (12 < d) := by
 rw [Bool.eq_iff_iff]; simp; omega
abbrev zJ : List AV := [intD 0,intD 0,.d (.str []),.fslice [],.fslice []]
theorem duo {H : AHeap} {r : Nat} {o : AObj} (gr : H[r]? = some o) : ∃ KK : AObj → AObj → AObj → AHeap,(∀ x y z,KK x y z = H.set r x ++ [y,z]) ∧ (∀ x y z,(KK x y z)[r]? = some x) ∧ (∀ x y z,(KK x y z)[H.length]? = some y) ∧ (∀ x y z,(KK x y z)[H.length + 1]? = some z) ∧
  (∀ x y z x',(KK x y z).set r x' = KK x' y z) ∧ (∀ x y z y',(KK x y z).set H.length y' = KK x y' z) ∧ (∀ x y z z',(KK x y z).set (H.length + 1) z' = KK x y z') := by
 obtain ⟨hr,e⟩ := List.getElem?_eq_some_iff.1 gr
 refine ⟨fun x y z => H.set r x ++ [y,z],fun _ _ _ => rfl,fun x y z => ?_,fun x y z => ?_,fun x y z => ?_,fun x y z x' => ?_,fun x y z y' => ?_,fun x y z z' => ?_⟩
 ·simp only; rw [List.getElem?_append_left (by simpa using hr)]; simp [hr]
 ·simp only; rw [List.getElem?_append_right (by simp)]; simp
 ·simp only; rw [List.getElem?_append_right (by simp)]; simp
 ·simp only; rw [List.set_append_left _ _ (by simpa using hr),List.set_set]
 ·simp only; rw [List.set_append_right _ _ (by simp)]; simp
 ·simp only; rw [List.set_append_right _ _ (by simp)]; simp
theorem trio {H : AHeap} {r : Nat} {o : AObj} (gr : H[r]? = some o) : ∃ KK : AObj → AObj → AObj → AObj → AHeap,(∀ x y z m,KK x y z m = H.set r x ++ [y,z,m]) ∧ (∀ x y z m,(KK x y z m)[r]? = some x) ∧ (∀ x y z m,(KK x y z m)[H.length]? = some y) ∧ (∀ x y z m,(KK x y z m)[H.length + 1]? = some z) ∧ (∀ x y z m,(KK x y z m)[H.length + 2]? = some m) ∧
  (∀ x y z m x',(KK x y z m).set r x' = KK x' y z m) ∧ (∀ x y z m y',(KK x y z m).set H.length y' = KK x y' z m) ∧ (∀ x y z m z',(KK x y z m).set (H.length + 1) z' = KK x y z' m) ∧ (∀ x y z m m',(KK x y z m).set (H.length + 2) m' = KK x y z m') := by
 obtain ⟨hr,e⟩ := List.getElem?_eq_some_iff.1 gr
 refine ⟨fun x y z m => H.set r x ++ [y,z,m],fun _ _ _ _ => rfl,fun x y z m => ?_,fun x y z m => ?_,fun x y z m => ?_,fun x y z m => ?_,fun x y z m x' => ?_,fun x y z m y' => ?_,fun x y z m z' => ?_,fun x y z m z' => ?_⟩
 ·simp only; rw [List.getElem?_append_left (by simpa using hr)]; simp [hr]
 ·simp only; rw [List.getElem?_append_right (by simp)]; simp
 ·simp only; rw [List.getElem?_append_right (by simp)]; simp
 ·simp only; rw [List.getElem?_append_right (by simp)]; simp
 ·simp only; rw [List.set_append_left _ _ (by simpa using hr),List.set_set]
 ·simp only; rw [List.set_append_right _ _ (by simp)]; simp
 ·simp only; rw [List.set_append_right _ _ (by simp)]; simp
 ·simp only; rw [List.set_append_right _ _ (by simp)]; simp
theorem list_eq (s : Tx) (f deep : Nat) (first : Bool) (acc : List J) (p : Nat) : listS s (f + 1) deep first acc p = match moreS s first 93 p with
  | .error e => .error e
  | .ok (false,p) => .ok (acc,p)
  | .ok (true,p) => match valueS s f (deep + 1) p with
   | .error e => .error e
   | .ok (j,q) => listS s f deep false (acc ++ [j]) q := by
 conv => lhs; unfold listS
 rfl
theorem headJ (l : List J) : headSz 5 (l.map J.d) = true := by
 cases l with
 | nil => rfl
 | cons j l => rw [List.map_cons,jd]; rfl
theorem headS (l : List Tx) : headSz 1 (l.map D.str) = true := by
 cases l with
 | nil => rfl
 | cons j l => rfl
theorem tk25 : Tab.tak 25 = false := rfl
abbrev listO (acc : List J) : AObj := .cells [intD 4,intD 0,.d (.str []),.fslice [],.fslice (acc.map J.d)]
abbrev listT (acc : List J) : AObj := .cells [intD 4,intD 0,.d (.str []),.fslice [],.d (.slice (acc.map J.d))]
theorem fields_eq (s : Tx) (f deep : Nat) (first : Bool) (ks : List Tx) (l : List J) (p : Nat) : fieldsS s (f + 1) deep first ks l p = match moreS s first 125 p with
  | .error e => .error e
  | .ok (false,p) => .ok (ks,l,p)
  | .ok (true,p) => match textS s p with
   | .error e => .error e
   | .ok (k,q) => if ks.contains k then .error (14,p) else match wantS s 58 (blanksS s q) with
    | .error e => .error e
    | .ok r => match valueS s f (deep + 1) (blanksS s r) with
     | .error e => .error e
     | .ok (j,z) => fieldsS s f deep false (ks ++ [k]) (l ++ [j]) z := by
 conv => lhs; unfold fieldsS
 rfl
abbrev keysE (ks : List Tx) : List (D × AV) := ks.map fun k => (D.str k,boolD true)
abbrev fldO (ks : List Tx) (acc : List J) : AObj := .cells [intD 5,intD 0,.d (.str []),.fslice (ks.map D.str),.fslice (acc.map J.d)]
abbrev fldT (ks : List Tx) (acc : List J) : AObj := .cells [intD 5,intD 0,.d (.str []),.fslice (ks.map D.str),.d (.slice (acc.map J.d))]
abbrev keysO (ks : List Tx) : AObj := .map .str (keysE ks)
theorem isKey_str (k : Tx) : isKey .str (.str k) = true := rfl
theorem str_beq (a b : Tx) : D.beq (.str a) (.str b) = (a == b) := rfl
theorem find_keys (k : Tx) : ∀ ks : List Tx,findE (.str k) (keysE ks) = if ks.contains k then some (boolD true) else none
 | [] => rfl
 | a :: ks => by
  simp only [keysE,List.map_cons,findE,str_beq,List.contains_cons]
  by_cases h : (k == a) = true
  ·simp [h]
  ·have := find_keys k ks
   simp only [keysE] at this
   simp [h,this]
theorem set_keys (k : Tx) : ∀ ks : List Tx,ks.contains k = false → setE (.str k) (boolD true) (keysE ks) = keysE (ks ++ [k])
 | [],_ => rfl
 | a :: ks,h => by
  simp only [List.contains_cons,Bool.or_eq_false_iff] at h
  simp only [keysE,List.map_cons,setE,str_beq,List.cons_append,h.1]
  have := set_keys k ks h.2
  simp only [keysE] at this
  simp [this]
def FieldsOK (f : Nat) : Prop := ∀ (lim : Nat) (H : AHeap) (r : Nat) (s : Tx) (p deep : Nat),H[r]? = some (rdO s p) → lim ≤ r → s.length ≤ 16384 → p ≤ s.length → deep ≤ 12 → 2 * (s.length - p) + 2 ≤ f →
 Fv X0 XP 40 lim [.ptr r 0,intD deep] H (fun v H' => ∃ y,fieldsS s f deep true [] [] p = .ok y ∧ v = .d (J.mk 5 0 [] y.1 y.2.1).d ∧ H' = H.set r (rdO s y.2.2)) (fun z => ∃ e,fieldsS s f deep true [] [] p = .error e ∧ z = stopP e.1 e.2)
theorem fields_all (f : Nat) (ih : ∀ g,g < f → ValueOK g) : FieldsOK f := by
 intro lim H r s p deep gr hl hs hp hd hf
 refine Fv_ofC (pn rfl) rfl (by first | exact rfl | exact pnP (pr := prims0) rfl) rfl (show code 40 = some c40 from rfl) rfl ?_; simp only [List.length_cons,List.length_nil,List.cons_append,List.nil_append,simprocAttr]
 obtain ⟨KK,kk0,kk1,kk2,kk3,kk4,kk5,hrl⟩ := one_more gr zC
 obtain ⟨K3,d0,d1,d2,d3,d4,d5,d6,d7,d8⟩ := trio gr
 have hll := Nat.le_trans hl hrl
 have hr := (List.getElem?_eq_some_iff.1 gr).1
 have hll2 : lim ≤ H.length + 1 := by omega
 have hll3 : lim ≤ H.length + 2 := by omega
 have a1 : (H ++ [zC]).length = H.length + 1 := by simp
 have a2 : ∀ (B C : AObj),(H ++ [zC] ++ [B]).set (H.length + 1) C = H ++ [zC,C] := fun B C => by
  rw [List.append_assoc,List.set_append_right _ _ (by simp)]; simp
 have a3 : ∀ (B : AObj),(H ++ [zC] ++ [B])[H.length + 1]? = some B := fun B => by
  rw [List.append_assoc,List.getElem?_append_right (by simp)]; simp
 have a4 : ∀ (B : AObj),(H ++ [zC,B]).length = H.length + 2 := fun B => by simp
 have a5 : ∀ (B C : AObj),H ++ [zC,B] ++ [C] = K3 (rdO s p) zC B C := fun B C => by
  rw [d0,rd_same gr]; simp
 (iterate 6 refine v_s (j_ a1 (j_ a2 (j_ a3 (j_ a4 (j_ a5 hll2))))) ?_)
 obtain ⟨L,hL0⟩ : ∃ L,L = fieldsS s f deep true [] [] p := ⟨_,rfl⟩
 rw [← hL0]
 (iterate 4 refine v_s trivial ?_)
 refine V_lp (fun m st => ∃ first ks acc p' f',p' ≤ s.length ∧ ks.length ≤ p' ∧ acc.length ≤ p' ∧ m = s.length - p' ∧ f' ≤ f ∧ 2 * (s.length - p') + 2 ≤ f' ∧ L = fieldsS s f' deep first ks acc p' ∧ ∃ x : Nat → AV,st = ⟨[.ptr r 0,intD deep,x 2,x 3,.ptr H.length 0,.ptr (H.length + 1) 0,.mapr (H.length + 2),boolD first,x 8,x 9,x 10,x 11,x 12],K3 (rdO s p') zC (fldO ks acc) (keysO ks)⟩) ?_ _ _ ⟨true,[],[],p,f,hp,Nat.zero_le _,Nat.zero_le _,rfl,Nat.le_refl _,hf,hL0,ex_st _ _ _ rfl⟩
 rintro m _ ⟨first,ks,acc,p',f',hp',hks,hac,rfl,hf1,hf2,hls,x,rfl⟩
 obtain ⟨g,rfl⟩ : ∃ g,f' = g + 1 := ⟨f' - 1,by omega⟩
 rw [fields_eq] at hls
 have hm := more_ev lim _ r s p' first 125 (by decide) (d1 (rdO s p') zC (fldO ks acc) (keysO ks)) hl hs hp'
 cases hmo : moreS s first 125 p' with
 | error e =>
  rw [hmo] at hls
  refine v_r trivial ?_
  refine V_region ?_; refine VO_call rfl ?_; simp only [zz,simprocAttr]
  exact EvP.fv (hm.noJ hmo) ⟨_,by rw [hls],rfl⟩
 | ok y =>
  obtain ⟨b,q⟩ := y
  rw [hmo] at hls
  have hmb := more_lt hmo
  have hq := hmb.2.1 hp'
  have em : Ev X0 39 lim [.ptr r 0,boolD first,.d (.int .u8 125)] (K3 (rdO s p') zC (fldO ks acc) (keysO ks)) (boolD b) _ := hm.okJ hmo
  rw [d5] at em
  cases b with
  | false =>
   refine v_r trivial ?_
   (apply V_drw; focus (refine Evl.call (X := X0) (em) (Evl.all fun k e1 => ?_); simp (maxSteps := 100000000) only [zz,zd,simprocAttr,e1]; (first | done | with_reducible exact rfl))) <;> (try simp only [zp,simprocAttr])
   refine v_r (j_ d3 (j_ d2 (j_ d6 hll))) ?_
   refine ans_drop (vs := [.d (J.mk 5 0 [] ks acc).d]) ?_ (d0 _ _ _ _) hr rfl rfl ⟨(ks,acc,q),by rw [hls],rfl,rfl⟩
   rw [jd]
   simp only [resV,zz,simprocAttr,d2]; rfl
  | true =>
   simp only at hls
   have g1 := d1 (rdO s q) zC (fldO ks acc) (keysO ks)
   refine v_r trivial ?_
   (apply V_drw; focus (refine Evl.call (X := X0) (em) (Evl.all fun k e1 => ?_); simp (maxSteps := 100000000) only [zz,zd,simprocAttr,e1]; (first | done | with_reducible exact rfl))) <;> (try simp only [zp,simprocAttr])
   refine v_r g1 ?_
   cases ht : textS s q with
   | error e =>
    rw [ht] at hls
    refine V_region ?_; refine VO_call rfl ?_; simp only [zz,simprocAttr]
    exact EvP.fv (text_no g1 hl hs hq ht) ⟨_,hls,rfl⟩
   | ok y =>
   obtain ⟨k,q2⟩ := y
   rw [ht] at hls
   have htl := text_lt ht
   have et := text_ok g1 hl hs hq ht
   rw [d5] at et
   simp only at hls
   have hfk := find_keys k ks
   have g2 := d4 (rdO s q2) zC (fldO ks acc) (keysO ks)
   (apply V_drw; focus (refine Evl.call (X := X0) (et) (Evl.all fun k e1 => ?_); simp (maxSteps := 100000000) only [zz,zd,simprocAttr,e1]; (first | done | with_reducible exact rfl))) <;> (try simp only [zp,simprocAttr])
   cases hkc : ks.contains k with
   | true =>
    rw [hkc] at hfk hls
    simp only [if_true] at hfk hls
    refine v_r (j_ g2 (j_ hfk @isKey_str)) ?_
    refine V_region ?_; refine VO_call rfl ?_; simp only [zz,simprocAttr]
    exact EvP.fv (stop_ev _ _ r 14 q) ⟨_,hls,rfl⟩
   | false =>
   rw [hkc] at hfk hls
   simp only [Bool.false_eq_true,if_false] at hfk hls
   have hsk := set_keys k ks hkc
   have g3 := d1 (rdO s q2) zC (fldO ks acc) (keysO (ks ++ [k]))
   refine v_r (j_ g2 (j_ hfk (j_ @isKey_str (j_ hsk (j_ d8 hll3))))) ?_
   have hb1 := blanks_le' s q2
   have eb1 := blanks_ev (pr := prims0) lim _ r s q2 g3 hl htl.2 hs
   rw [d5] at eb1
   (apply V_drw; focus (refine Evl.call (X := X0) (eb1) (Evl.all fun k e1 => ?_); simp (maxSteps := 100000000) only [zz,zd,simprocAttr,e1]; (first | done | with_reducible exact rfl))) <;> (try simp only [zp,simprocAttr])
   have g4 := d1 (rdO s (blanksS s q2)) zC (fldO ks acc) (keysO (ks ++ [k]))
   rcases want_cases s 58 (blanksS s q2) with ⟨h1,h2⟩ | ⟨h1,h2⟩
   rotate_left
   ·rw [h2] at hls
    refine v_r trivial ?_
    refine V_region ?_; refine VO_call rfl ?_; simp only [zz,simprocAttr]
    exact EvP.fv (want_no lim _ r s _ 58 g4 (hb1.2 htl.2) h1) ⟨_,hls,rfl⟩
   rw [h2] at hls
   simp only at hls
   have h1l := (List.getElem?_eq_some_iff.1 h1).1
   have hb2 := blanks_le' s (blanksS s q2 + 1)
   have ew : Ev X0 57 lim [.ptr r 0,.d (.int .u8 58)] (K3 (rdO s (blanksS s q2)) zC (fldO ks acc) (keysO (ks ++ [k]))) (.tuple []) _ := want_ok lim _ r s _ 58 g4 hl hs h1
   rw [d5] at ew
   have g5 := d1 (rdO s (blanksS s q2 + 1)) zC (fldO ks acc) (keysO (ks ++ [k]))
   have eb2 := blanks_ev (pr := prims0) lim _ r s _ g5 hl (by omega) hs
   rw [d5] at eb2
   refine v_r trivial ?_
   (apply V_drw; focus (refine Evl.call (X := X0) (ew) (Evl.all fun k e1 => ?_); simp (maxSteps := 100000000) only [zz,zd,simprocAttr,e1]; (first | done | with_reducible exact rfl))) <;> (try simp only [zp,simprocAttr])
   refine v_r trivial ?_
   (apply V_drw; focus (refine Evl.call (X := X0) (eb2) (Evl.all fun k e1 => ?_); simp (maxSteps := 100000000) only [zz,zd,simprocAttr,e1]; (first | done | with_reducible exact rfl))) <;> (try simp only [zp,simprocAttr])
   generalize hz : blanksS s (blanksS s q2 + 1) = z at hls hb2 eb2 ⊢
   have hs1 := headS ks
   have hs2 : ((ks.map D.str).length + 1) * 17 ≤ 70368744177664 := by rw [List.length_map]; omega
   refine v_r (j_ d3 (j_ d7 (j_ hll2 (j_ hs1 hs2)))) ?_
   have hkk : ks.map D.str ++ [D.str k] = (ks ++ [k]).map D.str := by simp
   rw [hkk]
   have wd : IntKind.i64.wrap ((deep : Int) + 1) = ((deep + 1 : Nat) : Int) := wpos (by omega)
   have hv1 := ih g (by omega) lim _ r s z (deep + 1) (d1 (rdO s z) zC (fldO (ks ++ [k]) acc) (keysO (ks ++ [k]))) hl hs (hb2.2 (by omega)) (by omega) (by omega)
   have hv2 := ih g (by omega) lim _ r s z (deep + 1) (d1 (rdO s z) zC (fldT (ks ++ [k]) acc) (keysO (ks ++ [k]))) hl hs (hb2.2 (by omega)) (by omega) (by omega)
   cases hvo : valueS s g (deep + 1) z with
   | error e =>
    rw [hvo] at hls
    (apply V_pan; focus (refine Evl.panN (X := X0) (hv1.noJ hvo) (Evl.panN (X := X0) (hv2.noJ hvo) (Evl.all fun k e2 e1 => ?_)); simp (maxSteps := 100000000) only [zz,zd,simprocAttr,wd,d3,d7,hll2,tk25,e2,e1]; (first | done | with_reducible exact rfl)))
    exact ⟨e,hls,rfl⟩
   | ok y =>
    obtain ⟨j,z2⟩ := y
    rw [hvo] at hls
    have hvl := value_lt hvo
    have ev1 := hv1.okJ hvo
    have ev2 := hv2.okJ hvo
    rw [d5] at ev1 ev2
    have hj := jd j
    have hz1 := headJ acc
    have hz2 : ((acc.map J.d).length + 1) * 85 ≤ 70368744177664 := by rw [List.length_map]; omega
    (apply V_drw; focus (refine Evl.call (X := X0) (ev1) (Evl.call (X := X0) (ev2) (Evl.all fun k e2 e1 => ?_)); simp (maxSteps := 100000000) only [zz,zd,simprocAttr,hj,hz1,hz2,wd,d3,d7,hll2,d5,e2,e1]; (first | done | with_reducible exact rfl))) <;> (try simp only [zp,simprocAttr])
    refine v_r trivial ?_
    refine ⟨s.length - z2,by omega,false,ks ++ [k],acc ++ [j],z2,g,hvl.2,by simp; omega,by simp; omega,rfl,by omega,by omega,hls,ex_stH ?_ rfl⟩
    rw [← hj]; simp only [fldO,List.map_append,List.map_cons,List.map_nil]
theorem value_step (f : Nat) (ih : ∀ g,g < f + 1 → ValueOK g) : ValueOK (f + 1) := by
 intro lim H r s p deep gr hl hs hp hd hf
 refine Fv_ofC (pn rfl) rfl (by first | exact rfl | exact pnP (pr := prims0) rfl) rfl (show code 25 = some c25 from rfl) rfl ?_; simp only [List.length_cons,List.length_nil,List.cons_append,List.nil_append,simprocAttr]
 obtain ⟨KK,kk0,kk1,kk2,kk3,kk4,kk5,hrl⟩ := one_more gr zC
 have hll := Nat.le_trans hl hrl
 have hr := (List.getElem?_eq_some_iff.1 gr).1
 (iterate 2 refine v_s trivial ?_)
 rw [← kk1]
 refine V_sq ?_
 (apply V_drw; focus (refine Evl.call (X := X0) (next_ev lim (KK (rdO s p) zC) r s p (kk2 _ _) hp) (Evl.all fun k e1 => ?_); simp (maxSteps := 100000000) only [zz,zd,simprocAttr,e1]; (first | done | with_reducible exact rfl))) <;> (try simp only [zp,simprocAttr])
 generalize hc : nx s p = c
 refine V_sq ?_
 refine V_mid (fun st => ∃ x : Nat → AV,st = ⟨[.ptr r 0,intD deep,boolD (decide (12 < deep) && begins c),x 3,x 4,x 5,x 6,x 7,x 8,x 9,.ptr H.length 0,.d (.int .u8 c.toNat),x 12,x 13,x 14,x 15,x 16,x 17],KK (rdO s p) zC⟩) ?_ ?_
 ·rw [begins_eq,← idx_ge,← deep_eq]
  cases hz : decide ((deep : Int) > 12) with
  | false =>
   refine v_r (j_ hz @Bool.false_and) ?_
   exact ex_st _ _ _ rfl
  | true =>
   cases h0 : ((c.toNat : Int) != 0) with
   | false =>
    refine v_r (j_ hz (j_ h0 @Bool.false_and)) ?_
    exact ex_st _ _ _ rfl
   | true =>
    cases h1 : isDigit c with
    | true =>
     (apply V_drw; focus (refine Evl.call (X := X0) (digit_ev lim (KK (rdO s p) zC) c) (Evl.all fun k e1 => ?_); simp (maxSteps := 100000000) only [zz,zd,simprocAttr,hz,h0,h1,Bool.true_and,Bool.true_or,e1]; (first | done | with_reducible exact rfl))) <;> (try simp only [zp,simprocAttr])
     exact ex_st _ _ _ rfl
    | false =>
     (apply V_drw; focus (refine Evl.call (X := X0) (digit_ev lim (KK (rdO s p) zC) c) (Evl.call (X := X0) (idx_ev lim (KK (rdO s p) zC) [91,123,34,110,116,102,45] c) (Evl.all fun k e2 e1 => ?_)); simp (maxSteps := 100000000) only [zz,zd,simprocAttr,hz,h0,h1,Bool.true_and,Bool.false_or,e2,e1]; (first | done | with_reducible exact rfl))) <;> (try simp only [zp,simprocAttr])
     exact ex_st _ _ _ rfl
 rintro _ ⟨x,rfl⟩
 have k2 := kk2 (rdO s p) zC
 unfold valueS
 rw [hc]
 cases hb : (decide (12 < deep) && begins c) with
 | true =>
  rw [if_pos (by simpa using hb)]
  refine v_r trivial ?_
  refine V_region ?_; apply VO_take 3; (focus (intro _; simp only [zz,simprocAttr,k2]; (first | done | with_reducible exact rfl))); simp only [List.drop_succ_cons,List.drop_zero]; refine VO_call rfl ?_; simp only [zz,simprocAttr]
  exact EvP.fv (stop_ev _ _ r 12 p) ⟨_,rfl,rfl⟩
 | false =>
 rw [if_neg (by simpa using hb)]
 have k3 := kk3 (rdO s p) zC
 have wp : IntKind.i64.wrap ((p : Int) + 1) = ((p + 1 : Nat) : Int) := wpos (by omega)
 by_cases h91 : c = 91
 ·have hpl : p < s.length := nx_lt' (by rw [hc,h91]; decide)
  have c1 : ((c.toNat : Int) == 91) = true := u8_t h91 rfl
  have hd2 : deep ≤ 12 := by
   rw [h91] at hb
   simp only [show begins 91 = true from rfl,Bool.and_true,decide_eq_false_iff_not] at hb
   omega
  rw [if_pos h91]
  refine v_r (j_ c1 (j_ k2 (j_ wp (j_ hl (j_ kk5 (j_ kk3 kk4)))))) ?_
  obtain ⟨K2,d0,d1,d2,d3,d4,d5,d6⟩ := duo gr
  have hl2 : (H.set r (.cells [.d (.str s),intD ((p + 1 : Nat) : Int)]) ++ [zC]).length = H.length + 1 := by simp
  have hs2 : ∀ (A B C : AObj),(H.set r A ++ [zC] ++ [B]).set (H.length + 1) C = K2 A zC C := fun A B C => by
   rw [d0,List.append_assoc,List.set_append_right _ _ (by simp)]; simp
  have hg2 : ∀ (A B : AObj),(H.set r A ++ [zC] ++ [B])[H.length + 1]? = some B := fun A B => by
   rw [List.append_assoc,List.getElem?_append_right (by simp)]; simp
  have hll2 : lim ≤ H.length + 1 := by omega
  rw [kk0]
  (iterate 2 refine v_s (j_ hl2 (j_ hs2 (j_ hg2 hll2))) ?_)
  (iterate 3 refine v_s trivial ?_)
  obtain ⟨L,hL0⟩ : ∃ L,L = listS s f deep true [] (p + 1) := ⟨_,rfl⟩
  rw [← hL0]
  refine V_lp (fun m st => ∃ first acc p' f',p' ≤ s.length ∧ acc.length ≤ p' ∧ m = s.length - p' ∧ f' ≤ f ∧ 2 * (s.length - p') + 2 ≤ f' ∧ L = listS s f' deep first acc p' ∧ ∃ x : Nat → AV,st = ⟨[.ptr r 0,intD deep,x 2,x 3,x 4,x 5,x 6,x 7,x 8,x 9,.ptr H.length 0,x 11,x 12,.ptr (H.length + 1) 0,boolD first,x 15,x 16,x 17],K2 (rdO s p') zC (listO acc)⟩) ?_ _ _ ⟨true,[],p + 1,f,by omega,Nat.zero_le _,rfl,Nat.le_refl _,by omega,hL0,ex_st _ _ _ rfl⟩
  rintro m _ ⟨first,acc,p',f',hp',hac,rfl,hf1,hf2,hls,x,rfl⟩
  obtain ⟨g,rfl⟩ : ∃ g,f' = g + 1 := ⟨f' - 1,by omega⟩
  rw [list_eq] at hls
  have hm := more_ev lim _ r s p' first 93 (by decide) (d1 (rdO s p') zC (listO acc)) hl hs hp'
  cases hmo : moreS s first 93 p' with
  | error e =>
   rw [hmo] at hls
   refine v_r trivial ?_
   refine V_region ?_; refine VO_call rfl ?_; simp only [zz,simprocAttr]
   exact EvP.fv (hm.noJ hmo) ⟨_,by rw [hls],rfl⟩
  | ok y =>
   obtain ⟨b,q⟩ := y
   rw [hmo] at hls
   have hmb := more_lt hmo
   have hq := hmb.2.1 hp'
   have em : Ev X0 39 lim [.ptr r 0,boolD first,.d (.int .u8 93)] (K2 (rdO s p') zC (listO acc)) (boolD b) _ := hm.okJ hmo
   rw [d4] at em
   cases b with
   | false =>
    refine v_r trivial ?_
    (apply V_drw; focus (refine Evl.call (X := X0) (em) (Evl.all fun k e1 => ?_); simp (maxSteps := 100000000) only [zz,zd,simprocAttr,e1]; (first | done | with_reducible exact rfl))) <;> (try simp only [zp,simprocAttr])
    refine v_r (j_ d3 (j_ d2 (j_ d5 hll))) ?_
    refine ans_drop (vs := [.d (J.mk 4 0 [] [] acc).d]) ?_ (d0 _ _ _) hr rfl rfl ⟨_,q,by rw [hls],rfl,rfl⟩
    rw [jd]
    simp only [resV,zz,simprocAttr,d2]; rfl
   | true =>
    have wd : IntKind.i64.wrap ((deep : Int) + 1) = ((deep + 1 : Nat) : Int) := wpos (by omega)
    have hv1 := ih g (by omega) lim _ r s q (deep + 1) (d1 (rdO s q) zC (listO acc)) hl hs hq (by omega) (by omega)
    have hv2 := ih g (by omega) lim _ r s q (deep + 1) (d1 (rdO s q) zC (listT acc)) hl hs hq (by omega) (by omega)
    simp only at hls
    refine v_r trivial ?_
    (apply V_drw; focus (refine Evl.call (X := X0) (em) (Evl.all fun k e1 => ?_); simp (maxSteps := 100000000) only [zz,zd,simprocAttr,e1]; (first | done | with_reducible exact rfl))) <;> (try simp only [zp,simprocAttr])
    refine v_r trivial ?_
    cases hvo : valueS s g (deep + 1) q with
    | error e =>
     (apply V_pan; focus (refine Evl.panN (X := X0) (hv1.noJ hvo) (Evl.panN (X := X0) (hv2.noJ hvo) (Evl.all fun k e2 e1 => ?_)); simp (maxSteps := 100000000) only [zz,zd,simprocAttr,wd,d3,d6,hll2,tk25,e2,e1]; (first | done | with_reducible exact rfl)))
     exact ⟨e,by rw [hls,hvo],rfl⟩
    | ok y =>
     obtain ⟨j,z⟩ := y
     have hvl := value_lt hvo
     have ev1 := hv1.okJ hvo
     have ev2 := hv2.okJ hvo
     rw [d4] at ev1 ev2
     have hj := jd j
     have hz1 := headJ acc
     have hz2 : ((acc.map J.d).length + 1) * 85 ≤ 70368744177664 := by rw [List.length_map]; omega
     (apply V_drw; focus (refine Evl.call (X := X0) (ev1) (Evl.call (X := X0) (ev2) (Evl.all fun k e2 e1 => ?_)); simp (maxSteps := 100000000) only [zz,zd,simprocAttr,hj,hz1,hz2,wd,d3,d6,hll2,d4,e2,e1]; (first | done | with_reducible exact rfl))) <;> (try simp only [zp,simprocAttr])
     refine v_r trivial ?_
     refine ⟨s.length - z,by omega,false,acc ++ [j],z,g,hvl.2,by simp; omega,rfl,by omega,by omega,by rw [hls,hvo],ex_stH ?_ rfl⟩
     rw [← hj]; simp only [listO,List.map_append,List.map_cons,List.map_nil]
 have c1 : ((c.toNat : Int) == 91) = false := u8_f h91 rfl
 rw [if_neg h91]
 by_cases h123 : c = 123
 ·have hpl : p < s.length := nx_lt' (by rw [hc,h123]; decide)
  have c2 : ((c.toNat : Int) == 123) = true := u8_t h123 rfl
  have hd2 : deep ≤ 12 := by
   rw [h123] at hb
   simp only [show begins 123 = true from rfl,Bool.and_true,decide_eq_false_iff_not] at hb
   omega
  rw [if_pos h123]
  refine v_r (j_ c1 (j_ c2 (j_ k2 (j_ wp (j_ hl (j_ kk5 (j_ kk3 kk4))))))) ?_
  have hf0 := fields_all f (fun g hg => ih g (by omega)) lim _ r s (p + 1) deep (kk2 (rdO s (p + 1)) zC) hl hs (by omega) hd2 (by omega)
  cases ht : fieldsS s f deep true [] [] (p + 1) with
  | error e =>
   refine V_region ?_; refine VO_call rfl ?_; simp only [zz,simprocAttr]
   exact EvP.fv (hf0.noP ht) ⟨_,rfl,rfl⟩
  | ok y =>
   have ef := hf0.okP ht
   rw [kk4] at ef
   obtain ⟨ks,l,q⟩ := y
   have hj := jd (J.mk 5 0 [] ks l)
   (apply V_drw; focus (refine Evl.call (X := X0) (ef) (Evl.all fun k e1 => ?_); simp (maxSteps := 100000000) only [zz,zd,simprocAttr,hj,kk5,kk3,kk4,hll,e1]; (first | done | with_reducible exact rfl))) <;> (try simp only [zp,simprocAttr])
   refine v_r trivial ?_
   refine ans_drop (vs := [.d (J.mk 5 0 [] ks l).d]) ?_ (kk0 _ _) hr rfl rfl ⟨_,q,rfl,rfl,rfl⟩
   rw [jd]
   simp only [resV,zz,simprocAttr,kk3]
 have c2 : ((c.toNat : Int) == 123) = false := u8_f h123 rfl
 rw [if_neg h123]
 by_cases h34 : c = 34
 ·have c3 : ((c.toNat : Int) == 34) = true := u8_t h34 rfl
  rw [if_pos h34]
  refine v_r (j_ c1 (j_ c2 c3)) ?_
  cases ht : textS s p with
  | error e =>
   refine V_region ?_; refine VO_call rfl ?_; simp only [zz,simprocAttr]
   exact EvP.fv (text_no k2 hl hs hp ht) ⟨_,rfl,rfl⟩
  | ok y =>
   obtain ⟨t,q⟩ := y
   (apply V_drw; focus (refine Evl.call (X := X0) (text_ok k2 hl hs hp ht) (Evl.all fun k e1 => ?_); simp (maxSteps := 100000000) only [zz,zd,simprocAttr,kk5,kk3,kk4,hll,e1]; (first | done | with_reducible exact rfl))) <;> (try simp only [zp,simprocAttr])
   refine v_r trivial ?_
   refine ans_drop (vs := [.d (J.mk 3 0 t [] []).d]) ?_ (kk0 _ _) hr rfl rfl ⟨_,q,rfl,rfl,rfl⟩
   rw [jd]
   simp only [resV,zz,simprocAttr,kk3]; rfl
 have c3 : ((c.toNat : Int) == 34) = false := u8_f h34 rfl
 rw [if_neg h34]
 by_cases h110 : c = 110
 ·have c4 : ((c.toNat : Int) == 110) = true := u8_t h110 rfl
  rw [if_pos h110]
  refine v_r (j_ c1 (j_ c2 (j_ c3 c4))) ?_
  have hw := word_ev (pr := prims0) (pP := primsP) lim _ r s p [110,117,108,108] 0 0 k2 hl hs (by decide) hp
  cases ht : wordS s [110,117,108,108] p with
  | error e =>
   refine V_region ?_; apply VO_take 1; (focus (intro _; simp only [zz,simprocAttr]; (first | done | with_reducible exact rfl))); simp only [List.drop_succ_cons,List.drop_zero]; refine VO_call rfl ?_; simp only [zz,simprocAttr]
   exact EvP.fv (hw.noP ht) ⟨_,rfl,rfl⟩
  | ok q =>
   (apply V_drw; focus (refine Evl.call (X := X0) (hw.okP ht) (Evl.all fun k e1 => ?_); simp (maxSteps := 100000000) only [zz,zd,simprocAttr,kk5,kk3,kk4,hll,e1]; (first | done | with_reducible exact rfl))) <;> (try simp only [zp,simprocAttr])
   refine v_r trivial ?_
   refine ans_drop (vs := [.d (J.mk 0 0 [] [] []).d]) ?_ (kk0 _ _) hr rfl rfl ⟨_,q,rfl,rfl,rfl⟩
   rw [jd]
   simp only [resV,zz,simprocAttr,kk3]; rfl
 have c4 : ((c.toNat : Int) == 110) = false := u8_f h110 rfl
 rw [if_neg h110]
 by_cases h116 : c = 116
 ·have c5 : ((c.toNat : Int) == 116) = true := u8_t h116 rfl
  rw [if_pos h116]
  refine v_r (j_ c1 (j_ c2 (j_ c3 (j_ c4 c5)))) ?_
  have hw := word_ev (pr := prims0) (pP := primsP) lim _ r s p [116,114,117,101] 1 1 k2 hl hs (by decide) hp
  cases ht : wordS s [116,114,117,101] p with
  | error e =>
   refine V_region ?_; apply VO_take 1; (focus (intro _; simp only [zz,simprocAttr]; (first | done | with_reducible exact rfl))); simp only [List.drop_succ_cons,List.drop_zero]; refine VO_call rfl ?_; simp only [zz,simprocAttr]
   exact EvP.fv (hw.noP ht) ⟨_,rfl,rfl⟩
  | ok q =>
   (apply V_drw; focus (refine Evl.call (X := X0) (hw.okP ht) (Evl.all fun k e1 => ?_); simp (maxSteps := 100000000) only [zz,zd,simprocAttr,kk5,kk3,kk4,hll,e1]; (first | done | with_reducible exact rfl))) <;> (try simp only [zp,simprocAttr])
   refine v_r trivial ?_
   refine ans_drop (vs := [.d (J.mk 1 1 [] [] []).d]) ?_ (kk0 _ _) hr rfl rfl ⟨_,q,rfl,rfl,rfl⟩
   rw [jd]
   simp only [resV,zz,simprocAttr,kk3]; rfl
 have c5 : ((c.toNat : Int) == 116) = false := u8_f h116 rfl
 rw [if_neg h116]
 by_cases h102 : c = 102
 ·have c6 : ((c.toNat : Int) == 102) = true := u8_t h102 rfl
  rw [if_pos h102]
  refine v_r (j_ c1 (j_ c2 (j_ c3 (j_ c4 (j_ c5 c6))))) ?_
  have hw := word_ev (pr := prims0) (pP := primsP) lim _ r s p [102,97,108,115,101] 1 0 k2 hl hs (by decide) hp
  cases ht : wordS s [102,97,108,115,101] p with
  | error e =>
   refine V_region ?_; apply VO_take 1; (focus (intro _; simp only [zz,simprocAttr]; (first | done | with_reducible exact rfl))); simp only [List.drop_succ_cons,List.drop_zero]; refine VO_call rfl ?_; simp only [zz,simprocAttr]
   exact EvP.fv (hw.noP ht) ⟨_,rfl,rfl⟩
  | ok q =>
   (apply V_drw; focus (refine Evl.call (X := X0) (hw.okP ht) (Evl.all fun k e1 => ?_); simp (maxSteps := 100000000) only [zz,zd,simprocAttr,kk5,kk3,kk4,hll,e1]; (first | done | with_reducible exact rfl))) <;> (try simp only [zp,simprocAttr])
   refine v_r trivial ?_
   refine ans_drop (vs := [.d (J.mk 1 0 [] [] []).d]) ?_ (kk0 _ _) hr rfl rfl ⟨_,q,rfl,rfl,rfl⟩
   rw [jd]
   simp only [resV,zz,simprocAttr,kk3]; rfl
 have c6 : ((c.toNat : Int) == 102) = false := u8_f h102 rfl
 rw [if_neg h102]
 refine v_r (j_ c1 (j_ c2 (j_ c3 (j_ c4 (j_ c5 c6))))) ?_
 have hw := number_ev lim _ r s p k2 hl hs hp
 cases ht : numberS s p with
 | error e =>
  refine V_region ?_; refine VO_call rfl ?_; simp only [zz,simprocAttr]
  exact EvP.fv (hw.noJ ht) ⟨_,rfl,rfl⟩
 | ok y =>
  obtain ⟨j,q⟩ := y
  have hj := jd j
  (apply V_drw; focus (refine Evl.call (X := X0) (hw.okJ ht) (Evl.all fun k e1 => ?_); simp (maxSteps := 100000000) only [zz,zd,simprocAttr,hj,kk5,kk3,kk4,hll,e1]; (first | done | with_reducible exact rfl))) <;> (try simp only [zp,simprocAttr])
  refine v_r trivial ?_
  refine ans_drop (vs := [.d j.d]) ?_ (kk0 _ _) hr rfl rfl ⟨_,q,rfl,rfl,rfl⟩
  rw [jd]
  simp only [resV,zz,simprocAttr,kk3]
theorem value_all (f : Nat) : ValueOK f := by
 induction f using Nat.strongRecOn with
 | _ f ih =>
  cases f with
  | zero => intro _ _ _ _ _ _ _ _ _ _ _ h; omega
  | succ f => exact value_step f ih
mutual
def wt : J → Nat
 | .mk _ _ t ks l => 1 + t.length + (ks.map fun k => k.length + 1).sum + wts l
def wts : List J → Nat
 | [] => 0
 | a :: l => wt a + wts l
end
theorem wt_eq (j : J) : wt j = 1 + j.t.length + (j.ks.map fun k => k.length + 1).sum + wts j.l := by
 obtain ⟨k,n,t,ks,l⟩ := j
 conv => lhs; unfold wt
 rfl
theorem wts_cons (a : J) (l : List J) : wts (a :: l) = wt a + wts l := by
 conv => lhs; unfold wts
theorem wts_append : ∀ l m : List J,wts (l ++ m) = wts l + wts m
 | [],m => by simp [wts]
 | a :: l,m => by rw [List.cons_append,wts_cons,wts_cons,wts_append l m]; omega
theorem wt_pos (j : J) : 1 ≤ wt j := by rw [wt_eq]; omega
theorem wts_len : ∀ l : List J,l.length ≤ wts l
 | [] => Nat.zero_le _
 | a :: l => by have := wts_len l; have := wt_pos a; rw [wts_cons,List.length_cons]; omega
theorem wts_mem : ∀ {l : List J} {y : J},y ∈ l → wt y ≤ wts l
 | a :: l,y,h => by
  rw [wts_cons]
  rcases List.mem_cons.1 h with rfl | h
  ·omega
  ·have := wts_mem h; omega
theorem sum_len : ∀ ks : List Tx,ks.length ≤ (ks.map fun k => k.length + 1).sum
 | [] => Nat.zero_le _
 | a :: l => by have := sum_len l; simp only [List.length_cons,List.map_cons,List.sum_cons]; omega
theorem sum_mem : ∀ {ks : List Tx} {k : Tx},k ∈ ks → k.length < (ks.map fun k => k.length + 1).sum
 | a :: l,k,h => by
  simp only [List.map_cons,List.sum_cons]
  rcases List.mem_cons.1 h with rfl | h
  ·omega
  ·have := sum_mem h; omega
theorem wt_t (j : J) : j.t.length < wt j := by rw [wt_eq]; omega
theorem wt_ks (j : J) : j.ks.length ≤ wt j := by have := sum_len j.ks; rw [wt_eq]; omega
theorem wt_l (j : J) : j.l.length ≤ wt j := by have := wts_len j.l; rw [wt_eq]; omega
theorem wt_key {j : J} {k : Tx} (h : k ∈ j.ks) : k.length ≤ wt j := by have := sum_mem h; rw [wt_eq]; omega
theorem wt_mem {j y : J} (h : y ∈ j.l) : wt y < wt j := by have := wts_mem h; rw [wt_eq j]; omega
def OrdOK : Nat → J → Prop
 | 0,_ => False
 | n + 1,j => (j.k = 5 → j.ks.length = j.l.length ∧ j.ks.Nodup) ∧ (j.k ≠ 5 → j.ks = []) ∧ (j.k ≠ 4 → j.k ≠ 5 → j.l = []) ∧ ∀ y ∈ j.l,OrdOK n y
theorem OrdOK.succ : ∀ {n : Nat} {j : J},OrdOK n j → OrdOK (n + 1) j
 | 0,_,h => h.elim
 | n + 1,j,⟨h1,h2,h3,h4⟩ => ⟨h1,h2,h3,fun y hy => (h4 y hy).succ⟩
theorem OrdOK.mono {n m : Nat} {j : J} (h : OrdOK n j) (hm : n ≤ m) : OrdOK m j := by
 induction hm with
 | refl => exact h
 | step _ ih => exact ih.succ
abbrev OrdE (j : J) : Prop := ∃ n,OrdOK n j
theorem ord_all : ∀ {l : List J},(∀ y ∈ l,OrdE y) → ∃ n,∀ y ∈ l,OrdOK n y
 | [],_ => ⟨0,by simp⟩
 | a :: l,h => by
  obtain ⟨n,hn⟩ := h a (by simp)
  obtain ⟨m,hm⟩ := ord_all (l := l) fun y hy => h y (List.mem_cons_of_mem _ hy)
  refine ⟨max n m,fun y hy => ?_⟩
  rcases List.mem_cons.1 hy with rfl | hy
  ·exact hn.mono (Nat.le_max_left _ _)
  ·exact (hm y hy).mono (Nat.le_max_right _ _)
theorem ord_leaf {k n : Int} {t : Tx} (h : k ≠ 5) : OrdE (.mk k n t [] []) :=
 ⟨1,fun e => absurd e h,fun _ => rfl,fun _ _ => rfl,fun y hy => by cases hy⟩
theorem wt_leaf (k n : Int) (t : Tx) : wt (.mk k n t [] []) = 1 + t.length := by rw [wt_eq]; simp [J.t,J.ks,J.l,wts]
theorem good_ord : ∀ {n : Nat} {j : J},goodB n j = true → OrdOK n j
 | 0,_,h => by cases h
 | n + 1,j,h => by
  obtain ⟨h1,h2⟩ := Bool.and_eq_true_iff.1 (show (shapedB j && j.l.all (goodB n)) = true from h)
  have hall : ∀ y ∈ j.l,OrdOK n y := fun y hy => good_ord (List.all_eq_true.1 h2 y hy)
  have hemp : emptyB j = true → j.ks = [] ∧ j.l = [] := fun h => by
   have := of_decide_eq_true h
   exact ⟨List.length_eq_zero_iff.1 (by omega),List.length_eq_zero_iff.1 (by omega)⟩
  unfold shapedB at h1
  split at h1
  ·rename_i hk
   obtain ⟨e1,e2⟩ := hemp (by simp only [Bool.and_eq_true] at h1; exact h1.1.1)
   exact ⟨(fun e => absurd (hk.symm.trans e) (by decide)),fun _ => e1,fun _ _ => e2,hall⟩
  split at h1
  ·rename_i hk
   obtain ⟨e1,e2⟩ := hemp (by simp only [Bool.and_eq_true] at h1; exact h1.1.1)
   exact ⟨(fun e => absurd (hk.symm.trans e) (by decide)),fun _ => e1,fun _ _ => e2,hall⟩
  split at h1
  ·rename_i hk
   obtain ⟨e1,e2⟩ := hemp (by simp only [Bool.and_eq_true] at h1; exact h1.1.1.1)
   exact ⟨(fun e => absurd (hk.symm.trans e) (by decide)),fun _ => e1,fun _ _ => e2,hall⟩
  split at h1
  ·rename_i hk
   obtain ⟨e1,e2⟩ := hemp (by simp only [Bool.and_eq_true] at h1; exact h1.1.1)
   exact ⟨(fun e => absurd (hk.symm.trans e) (by decide)),fun _ => e1,fun _ _ => e2,hall⟩
  split at h1
  ·rename_i hk
   simp only [Bool.and_eq_true,decide_eq_true_eq] at h1
   exact ⟨(fun e => absurd (hk.symm.trans e) (by decide)),fun _ => List.length_eq_zero_iff.1 h1.1.1,fun e => absurd hk e,hall⟩
  split at h1
  ·rename_i hk
   simp only [Bool.and_eq_true,decide_eq_true_eq,namedB] at h1
   exact ⟨fun _ => ⟨h1.1.1.1,h1.2.2⟩,fun e => absurd hk e,fun _ e => absurd hk e,hall⟩
  ·cases h1
theorem chars_len {s : Tx} : ∀ {f : Nat} {acc : Tx} {p q : Nat} {t : Tx},charsS s f acc p = .ok (t,q) → t.length + 4 * p ≤ acc.length + 4 * q
 | 0,_,_,_,_,h => by cases h
 | f + 1,acc,p,q,t,h => by
  unfold charsS at h
  split at h
  ·cases h
  ·split at h
   ·cases h
   ·split at h
    ·cases h; omega
    ·split at h
     ·split at h
      ·cases h
      ·rename_i n r he
       have := chars_len h
       have := (esc_lt he).1
       have : (runeB n).length ≤ 4 := by unfold runeB; (repeat' split) <;> simp
       rw [List.length_append] at *
       omega
     ·have := chars_len h
      rw [List.length_append,List.length_singleton] at this
      omega
theorem text_len {s : Tx} {p q : Nat} {t : Tx} (h : textS s p = .ok (t,q)) : t.length + 4 * p + 4 ≤ 4 * q := by
 unfold textS at h
 split at h
 ·cases h
 ·rename_i r hw
  have := (want_lt hw).1
  have := chars_len h
  simp only [List.length_nil] at this
  omega
theorem number_ord {s : Tx} {p q : Nat} {j : J} (h : numberS s p = .ok (j,q)) : OrdE j ∧ wt j = 1 := by
 unfold numberS at h
 simp only at h
 generalize (if nx s p = 45 then p + 1 else p) = f at h
 split at h
 ·split at h
  ·cases h
  ·split at h
   ·cases h
   ·cases h; exact ⟨ord_leaf (by decide),wt_leaf _ _ _⟩
 ·cases h
theorem all_ord (s : Tx) : ∀ f : Nat,(∀ deep p j q,valueS s f deep p = .ok (j,q) → OrdE j ∧ wt j + 8 * p ≤ 8 * q) ∧
  (∀ deep first acc p l q,listS s f deep first acc p = .ok (l,q) → (∀ y ∈ acc,OrdE y) → (∀ y ∈ l,OrdE y) ∧ wts l + 8 * p + 8 ≤ wts acc + 8 * q) ∧
  (∀ deep first ks acc p k l q,fieldsS s f deep first ks acc p = .ok (k,l,q) → ks.length = acc.length → ks.Nodup → (∀ y ∈ acc,OrdE y) → k.length = l.length ∧ k.Nodup ∧ (∀ y ∈ l,OrdE y) ∧ wts l + (k.map fun k => k.length + 1).sum + 8 * p + 8 ≤ wts acc + (ks.map fun k => k.length + 1).sum + 8 * q) := by
 intro f
 induction f with
 | zero =>
  refine ⟨fun _ _ _ _ h => ?_,fun _ _ _ _ _ _ h => ?_,fun _ _ _ _ _ _ _ _ h => ?_⟩
  ·unfold valueS at h; cases h
  ·unfold listS at h; cases h
  ·unfold fieldsS at h; cases h
 | succ f ih =>
  refine ⟨fun deep p j q h => ?_,fun deep first acc p l q h hy => ?_,fun deep first ks acc p k l q h hk hd hy => ?_⟩
  ·have hpq := value_lt h
   unfold valueS at h
   split at h
   ·cases h
   split at h
   ·split at h
    ·cases h
    ·rename_i l q' h1
     obtain ⟨r2,r3⟩ := ih.2.1 _ _ _ _ _ _ h1 (by simp)
     cases h
     obtain ⟨n,hn⟩ := ord_all r2
     refine ⟨⟨n + 1,(fun e => absurd (show (4 : Int) = 5 from e) (by decide)),fun _ => rfl,fun e => absurd rfl e,hn⟩,?_⟩
     rw [wt_eq]
     simp only [J.t,J.ks,J.l,List.length_nil,List.map_nil,List.sum_nil,wts] at r3 ⊢
     omega
   split at h
   ·split at h
    ·cases h
    ·rename_i k l q' h1
     obtain ⟨r2,r3,r4,r5⟩ := ih.2.2 _ _ _ _ _ _ _ _ h1 rfl List.nodup_nil (by simp)
     cases h
     obtain ⟨n,hn⟩ := ord_all r4
     refine ⟨⟨n + 1,(fun _ => ⟨r2,r3⟩),fun e => absurd rfl e,fun _ e => absurd rfl e,hn⟩,?_⟩
     rw [wt_eq]
     simp only [J.t,J.ks,J.l,List.length_nil,List.map_nil,List.sum_nil,wts] at r5 ⊢
     omega
   split at h
   ·split at h
    ·cases h
    ·rename_i t q' h1
     have := text_len h1
     cases h
     exact ⟨ord_leaf (by decide),by rw [wt_leaf]; omega⟩
   split at h
   ·split at h
    ·cases h
    ·cases h; exact ⟨ord_leaf (by decide),by rw [wt_leaf]; simp only [List.length_nil]; omega⟩
   split at h
   ·split at h
    ·cases h
    ·cases h; exact ⟨ord_leaf (by decide),by rw [wt_leaf]; simp only [List.length_nil]; omega⟩
   split at h
   ·split at h
    ·cases h
    ·cases h; exact ⟨ord_leaf (by decide),by rw [wt_leaf]; simp only [List.length_nil]; omega⟩
   obtain ⟨r1,r2⟩ := number_ord h
   exact ⟨r1,by rw [r2]; omega⟩
  ·unfold listS at h
   split at h
   ·cases h
   ·rename_i q' h1
    have := (more_lt h1).2.2 rfl
    cases h
    exact ⟨hy,by omega⟩
   ·rename_i p' h1
    have := more_lt h1
    split at h
    ·cases h
    ·rename_i j q' h2
     obtain ⟨hj,hw⟩ := ih.1 _ _ _ _ h2
     obtain ⟨r1,r2⟩ := ih.2.1 _ _ _ _ _ _ h fun y hy' => by
      rcases List.mem_append.1 hy' with h' | h'
      ·exact hy y h'
      ·rw [List.mem_singleton.1 h']; exact hj
     refine ⟨r1,?_⟩
     rw [wts_append] at r2
     simp only [wts] at r2
     omega
  ·unfold fieldsS at h
   split at h
   ·cases h
   ·rename_i q' h1
    have := (more_lt h1).2.2 rfl
    cases h
    exact ⟨hk,hd,hy,by omega⟩
   ·rename_i p' h1
    have hm := more_lt h1
    split at h
    ·cases h
    ·rename_i k' q' h2
     have ht := text_len h2
     split at h
     ·cases h
     ·rename_i hkc
      split at h
      ·cases h
      ·rename_i r h3
       have hw := want_lt h3
       split at h
       ·cases h
       ·rename_i j z h4
        have b1 := blanks_le' s q'
        have b2 := blanks_le' s r
        obtain ⟨hj,hjw⟩ := ih.1 _ _ _ _ h4
        obtain ⟨r1,r2,r3,r4⟩ := ih.2.2 _ _ _ _ _ _ _ _ h (by simp [hk]) (by
         refine List.nodup_append.2 ⟨hd,by simp,fun a ha b hb e => ?_⟩
         have : b = k' := by simpa using hb
         subst this; subst e
         exact hkc (by simpa using ha)) fun y hy' => by
          rcases List.mem_append.1 hy' with h' | h'
          ·exact hy y h'
          ·rw [List.mem_singleton.1 h']; exact hj
        refine ⟨r1,r2,r3,?_⟩
        rw [wts_append] at r4
        simp only [wts,List.map_append,List.map_cons,List.map_nil,List.sum_append,List.sum_cons,List.sum_nil] at r4
        omega
theorem value_ord {s : Tx} {f deep p q : Nat} {j : J} (h : valueS s f deep p = .ok (j,q)) : OrdE j ∧ wt j + 8 * p ≤ 8 * q := (all_ord s f).1 _ _ _ _ h
variable {pr : FuncId → Option AFun} {pP : FuncId → Option PFun} [POK pr] [PPOK pr pP]
theorem trey (H : AHeap) (o : AObj) : ∃ K : AObj → AObj → AHeap,(∀ a b,K a b = H ++ [o,a,b]) ∧ (∀ a b,(K a b)[H.length]? = some o) ∧ (∀ a b,(K a b)[H.length + 1]? = some a) ∧ (∀ a b,(K a b)[H.length + 2]? = some b) ∧
  (∀ a b a',(K a b).set (H.length + 1) a' = K a' b) ∧ (∀ a b b',(K a b).set (H.length + 2) b' = K a b') := by
 refine ⟨fun a b => H ++ [o,a,b],fun _ _ => rfl,fun a b => ?_,fun a b => ?_,fun a b => ?_,fun a b a' => ?_,fun a b b' => ?_⟩
 ·simp only; rw [List.getElem?_append_right (by simp)]; simp
 ·simp only; rw [List.getElem?_append_right (by simp)]; simp
 ·simp only; rw [List.getElem?_append_right (by simp)]; simp
 ·simp only; rw [List.set_append_right _ _ (by simp)]; simp
 ·simp only; rw [List.set_append_right _ _ (by simp)]; simp
abbrev zO : AObj := .cells [intD 0,intD 0,.d (.str []),.fslice [],.fslice []]
abbrev nO (n : Int) : AObj := .cells [intD n]
abbrev jO (j : J) : AObj := .cells (jC j)
theorem four (H : AHeap) : ∃ K : AObj → AObj → AObj → AObj → AHeap,(∀ a b c o,K a b c o = H ++ [a,b,c,o]) ∧ (∀ a b c o,(K a b c o)[H.length]? = some a) ∧ (∀ a b c o,(K a b c o)[H.length + 1]? = some b) ∧ (∀ a b c o,(K a b c o)[H.length + 2]? = some c) ∧ (∀ a b c o,(K a b c o)[H.length + 3]? = some o) ∧
  (∀ a b c o a',(K a b c o).set H.length a' = K a' b c o) ∧ (∀ a b c o a',(K a b c o).set (H.length + 1) a' = K a a' c o) ∧ (∀ a b c o a',(K a b c o).set (H.length + 2) a' = K a b a' o) ∧ (∀ a b c o a',(K a b c o).set (H.length + 3) a' = K a b c a') := by
 refine ⟨fun a b c o => H ++ [a,b,c,o],fun _ _ _ _ => rfl,?_,?_,?_,?_,?_,?_,?_,?_⟩ <;> intros <;> simp only
 ·rw [List.getElem?_append_right (by omega)]; simp
 ·rw [List.getElem?_append_right (by omega)]; simp
 ·rw [List.getElem?_append_right (by omega)]; simp
 ·rw [List.getElem?_append_right (by omega)]; simp
 ·rw [List.set_append_right _ _ (by omega)]; simp
 ·rw [List.set_append_right _ _ (by omega)]; simp
 ·rw [List.set_append_right _ _ (by omega)]; simp
 ·rw [List.set_append_right _ _ (by omega)]; simp
theorem three (H : AHeap) : ∃ K : AObj → AObj → AObj → AHeap,(∀ a b c,K a b c = H ++ [a,b,c]) ∧ (∀ a b c,(K a b c)[H.length]? = some a) ∧ (∀ a b c,(K a b c)[H.length + 1]? = some b) ∧ (∀ a b c,(K a b c)[H.length + 2]? = some c) ∧
  (∀ a b c a',(K a b c).set H.length a' = K a' b c) ∧ (∀ a b c a',(K a b c).set (H.length + 1) a' = K a a' c) ∧ (∀ a b c a',(K a b c).set (H.length + 2) a' = K a b a') := by
 refine ⟨fun a b c => H ++ [a,b,c],fun _ _ _ => rfl,?_,?_,?_,?_,?_,?_⟩ <;> intros <;> simp only
 ·rw [List.getElem?_append_right (by omega)]; simp
 ·rw [List.getElem?_append_right (by omega)]; simp
 ·rw [List.getElem?_append_right (by omega)]; simp
 ·rw [List.set_append_right _ _ (by omega)]; simp
 ·rw [List.set_append_right _ _ (by omega)]; simp
 ·rw [List.set_append_right _ _ (by omega)]; simp
theorem trey_more {H : AHeap} {o : AObj} {K : AObj → AObj → AHeap} (kk : ∀ a b,K a b = H ++ [o,a,b]) (a : AObj) (M : List AObj) : ∃ G : AObj → AObj → AHeap,(∀ b q,K a b ++ M ++ [q] = G b q) ∧ (∀ b,(K a b ++ M).length = H.length + 3 + M.length) ∧ (∀ b q,(G b q)[H.length + 3 + M.length]? = some q) ∧ (∀ b q,(G b q)[H.length + 2]? = some b) ∧ (∀ b q b',(G b q).set (H.length + 2) b' = G b' q) ∧ (∀ b q q',(G b q).set (H.length + 3 + M.length) q' = G b q') := by
 have hl : ∀ b,(K a b ++ M).length = H.length + 3 + M.length := fun b => by rw [kk]; simp; omega
 refine ⟨fun b q => K a b ++ M ++ [q],fun _ _ => rfl,hl,fun b q => ?_,fun b q => ?_,fun b q b' => ?_,fun b q q' => ?_⟩
 ·simp only; rw [← hl b]; simp
 ·simp only [kk,List.append_assoc]; rw [List.getElem?_append_right (by omega)]; simp
 ·simp only [kk,List.append_assoc]; rw [List.set_append_right _ _ (by omega)]; simp
 ·simp only; rw [← hl b,List.set_append_right _ _ (by omega)]; simp
abbrev outO (k n : Int) (t : Tx) (ks : List Tx) (l : List J) : AObj := .cells [.d (.int .i64 k),.d (.int .i64 n),.d (.str t),.fslice (ks.map D.str),.fslice (l.map J.d)]
abbrev outT (k n : Int) (t : Tx) (ks : List Tx) (l : List J) : AObj := .cells [.d (.int .i64 k),.d (.int .i64 n),.d (.str t),.fslice (ks.map D.str),.d (.slice (l.map J.d))]
abbrev outL (k n : Int) (t : Tx) (l : List J) : AObj := .cells [.d (.int .i64 k),.d (.int .i64 n),.d (.str t),.fslice [],.fslice (l.map J.d)]
abbrev outLT (k n : Int) (t : Tx) (l : List J) : AObj := .cells [.d (.int .i64 k),.d (.int .i64 n),.d (.str t),.fslice [],.d (.slice (l.map J.d))]
theorem map_succ {α β : Type} (f : α → β) {l : List α} {i : Nat} {a : α} (h : l[i]? = some a) : (l.take i).map f ++ [f a] = (l.take (i + 1)).map f := by
 rw [List.take_add_one,h]; simp
theorem ordered_ev : ∀ (n : Nat) (lim : Nat) (H : AHeap) (j : J),OrdOK n j → wt j ≤ 100000000000 → Ev (envN code pr) 27 lim [.d j.d] H (.d (orderJ j).d) H
 | 0,_,_,_,h,_ => h.elim
 | n + 1,lim,H,j,⟨hm,_,_,hy⟩,hwt => by
  have hk := wt_ks j
  have hl := wt_l j
  have hyw : ∀ y ∈ j.l,wt y ≤ 100000000000 := fun y hy => by have := wt_mem hy; omega
  refine Fn.ev ?_
  refine Fn_of (pn rfl) rfl (show code 27 = some c27 from rfl) rfl ?_; simp only [List.length_cons,List.length_nil,List.cons_append,List.nil_append,simprocAttr]
  obtain ⟨K,kk,k0,k1,k2,k3,k4⟩ := trey H (.cells (jC j))
  have hjd := jd j
  have a1 : (H ++ [AObj.cells (jC j)]).length = H.length + 1 := by simp
  have a2 : ∀ o,(H ++ [AObj.cells (jC j)] ++ [o]).length = H.length + 2 := fun o => by simp
  have a3 : ∀ o o',(H ++ [AObj.cells (jC j)] ++ [o] ++ [o']) = K o o' := fun o o' => by rw [kk]; simp
  have a4 : ∀ o,(H ++ [AObj.cells (jC j)] ++ [o])[H.length]? = some (.cells (jC j)) := fun o => by simp
  have hll1 : H.length ≤ H.length + 1 := by omega
  have hll2 : H.length ≤ H.length + 2 := by omega
  rw [orderJ_eq]
  (iterate 4 refine w_s (j_ hjd (j_ a1 (j_ a2 (j_ a3 (j_ a4 (j_ k0 (j_ k1 (j_ k2 (j_ k3 (j_ k4 hll2)))))))))) ?_)
  by_cases h5 : j.k = 5
  ·rw [if_pos h5]
   have c5 : (j.k == 5) = true := by simpa using h5
   obtain ⟨hkl,hnd⟩ := hm h5
   refine w_r (j_ k0 c5) ?_
   have hpl := places_ev (pr := pr) H.length (K (outO 0 0 [] [] []) (outO j.k j.n j.t [] [])) j.ks (by omega) hnd
   obtain ⟨P,hP⟩ : ∃ P,byKeys j.ks = P := ⟨_,rfl⟩
   have hPl := byKeys_length j.ks
   have hPm : ∀ i ∈ P,i < j.ks.length := fun i hi => byKeys_lt (hP ▸ hi)
   rw [hP] at hpl hPl
   simp only [outO,List.map_nil] at hpl
   rw [hP]
   refine w_1 hpl (j_ k0 (@List.length_map.{0,0})) ?_
   refine w_r trivial ?_
   refine W_lp (fun k st => ∃ i : Nat,i ≤ P.length ∧ k = P.length - i ∧ ∃ x : Nat → AV,st = ⟨[x 0,x 1,x 2,x 3,.ptr (H.length + 1) 0,.ptr H.length 0,.ptr (H.length + 2) 0,.d (.slice (P.map fun (i : Nat) => D.int .i64 (i : Int))),intD P.length,intD i,x 10,x 11,x 12,x 13,x 14,x 15,x 16,x 17],K (outO 0 0 [] [] []) (outO j.k j.n j.t ((P.take i).map fun i => j.ks.getD i []) ((P.take i).map fun i => (j.l.map orderJ).getD i J.zero))⟩) ?_ _ _ ⟨0,Nat.zero_le _,rfl,ex_st _ _ _ rfl⟩
   rintro k _ ⟨i,hi,rfl,x,rfl⟩
   by_cases t0 : i < P.length
   ·have f1 : ((i : Int) < (P.length : Int)) = True := eq_true (by omega)
    have w1 : IntKind.i64.wrap ((i : Int) + 1) = ((i + 1 : Nat) : Int) := wsucc (by omega)
    obtain ⟨p,hp⟩ : ∃ p,P[i]? = some p := ⟨_,List.getElem?_eq_getElem t0⟩
    have hpk := hPm p (List.mem_of_getElem? hp)
    obtain ⟨s,hs⟩ : ∃ s,j.ks[p]? = some s := ⟨_,List.getElem?_eq_getElem hpk⟩
    obtain ⟨y,hy'⟩ : ∃ y,j.l[p]? = some y := ⟨_,List.getElem?_eq_getElem (by omega)⟩
    have hyd := jd y
    have hod := jd (orderJ y)
    have e1 := map_succ (fun i => j.ks.getD i []) hp
    have e2 := map_succ (fun i => (j.l.map orderJ).getD i J.zero) hp
    have g1 : j.ks.getD p [] = s := by simp [List.getD,hs]
    have g2 : (j.l.map orderJ).getD p J.zero = orderJ y := by simp [List.getD,hy']
    rw [g1] at e1
    rw [g2] at e2
    have ho := fun M => ordered_ev n H.length M y (hy y (List.mem_of_getElem? hy')) (hyw y (List.mem_of_getElem? hy'))
    simp only [hyd,hod] at ho
    have n1 : ((P.take i).map fun i => j.ks.getD i []).length = i := by simp; omega
    have n2 : ((P.take i).map fun i => (j.l.map orderJ).getD i J.zero).length = i := by simp; omega
    generalize ((P.take i).map fun i => j.ks.getD i []) = A at *
    generalize ((P.take i).map fun i => (j.l.map orderJ).getD i J.zero) = B at *
    have m1 : A.map D.str ++ [D.str s] = (A ++ [s]).map D.str := by simp
    have m2 : B.map J.d ++ [D.agg [.int .i64 (orderJ y).k,.int .i64 (orderJ y).n,.str (orderJ y).t,sD (orderJ y).ks,jsD (orderJ y).l]] = (B ++ [orderJ y]).map J.d := by simp [hod]
    have z1 := headS A
    have z2 := headJ B
    have b1 : (i + 1) * 17 ≤ 70368744177664 := by omega
    have b2 : (i + 1) * 85 ≤ 70368744177664 := by omega
    have hc : ∀ s : Tx,(D.str s).cells = [D.str s] := fun _ => rfl
    (iterate 10 refine w_s (j_ f1 hp) ?_)
    (apply W_rg; focus (intro k; simp (maxSteps := 100000000) only [zz,zd,simprocAttr,k0,k2,k4,hs,hc,z1,n1,b1,m1,e1,List.length_map,hll2]; (first | done | with_reducible exact rfl))) <;> (try simp only [zp,simprocAttr])
    obtain ⟨A',hA⟩ : ∃ A',((P.take (i + 1)).map fun i => j.ks.getD i []) = A' := ⟨_,rfl⟩
    rw [hA]
    refine w_2 ((ho (K (outO 0 0 [] [] []) (outO j.k j.n j.t A' B)))) ((ho (K (outO 0 0 [] [] []) (outT j.k j.n j.t A' B)))) (j_ k0 (j_ k2 (j_ k4 (j_ hy' (j_ hyd (j_ z2 (j_ n2 (j_ b2 (j_ m2 (j_ e2 (j_ (@List.length_map.{0,0}) hll2))))))))))) ?_
    refine w_r w1 ?_
    exact ⟨P.length - (i + 1),by omega,i + 1,t0,rfl,ex_stH (by first | rw [hA,e2] | rw [hA]) rfl⟩
   ·obtain rfl : i = P.length := by omega
    have f1 : ((P.length : Int) < (P.length : Int)) = False := eq_false (by omega)
    rw [List.take_length]
    refine w_r (j_ f1 (j_ k1 (j_ k2 (j_ k3 hll1)))) ?_
    refine ans_cut (vs := [.d (.agg [.int .i64 j.k,.int .i64 j.n,.str j.t,sD (P.map fun i => j.ks.getD i []),jsD (P.map fun i => (j.l.map orderJ).getD i J.zero)])]) ?_ rfl ⟨by rw [jd]; rfl,rfl⟩
    simp only [resV,zz,simprocAttr,k1]
  ·rw [if_neg h5]
   have c5 : (j.k == 5) = false := by simpa using h5
   refine w_r (j_ k0 (j_ c5 (@List.length_map.{0,0}))) ?_
   refine W_lp (fun k st => ∃ (i : Nat) (M : List AObj),i ≤ j.l.length ∧ k = j.l.length - i ∧ ∃ x : Nat → AV,st = ⟨[x 0,x 1,x 2,x 3,.ptr (H.length + 1) 0,.ptr H.length 0,.ptr (H.length + 2) 0,x 7,x 8,x 9,x 10,.d (jsD j.l),intD j.l.length,intD i,x 14,x 15,x 16,x 17],K (outO 0 0 [] [] []) (outL j.k j.n j.t ((j.l.take i).map orderJ)) ++ M⟩) ?_ _ _ ⟨0,[],Nat.zero_le _,rfl,ex_stH (by rw [List.append_nil]; rfl) rfl⟩
   rintro k _ ⟨i,M,hi,rfl,x,rfl⟩
   by_cases t0 : i < j.l.length
   ·have f1 : ((i : Int) < (j.l.length : Int)) = True := eq_true (by omega)
    have w1 : IntKind.i64.wrap ((i : Int) + 1) = ((i + 1 : Nat) : Int) := wsucc (by omega)
    obtain ⟨y,hy'⟩ : ∃ y,j.l[i]? = some y := ⟨_,List.getElem?_eq_getElem t0⟩
    have hyd := jd y
    have hod := jd (orderJ y)
    have e2 := map_succ orderJ hy'
    have ho := fun M => ordered_ev n H.length M y (hy y (List.mem_of_getElem? hy')) (hyw y (List.mem_of_getElem? hy'))
    simp only [hyd,hod] at ho
    have n2 : ((j.l.take i).map orderJ).length = i := by simp; omega
    generalize (j.l.take i).map orderJ = B at *
    obtain ⟨G,gg,gl,g0,g2,g3,g4⟩ := trey_more kk (outO 0 0 [] [] []) M
    have hll3 : H.length ≤ H.length + 3 + M.length := by omega
    have z2 := headJ B
    have b2 : (i + 1) * 85 ≤ 70368744177664 := by omega
    have m2 : B.map J.d ++ [D.agg [.int .i64 (orderJ y).k,.int .i64 (orderJ y).n,.str (orderJ y).t,sD (orderJ y).ks,jsD (orderJ y).l]] = (B ++ [orderJ y]).map J.d := by simp [hod]
    (iterate 9 refine w_s (j_ f1 (j_ hy' (j_ hyd (j_ gg (j_ gl (j_ g0 (j_ g4 hll3))))))) ?_)
    refine w_2 ((ho (G (outL j.k j.n j.t B) (.cells (jC y))))) ((ho (G (outLT j.k j.n j.t B) (.cells (jC y))))) (j_ g0 (j_ g2 (j_ g3 (j_ z2 (j_ n2 (j_ b2 (j_ m2 (j_ (@List.length_map.{0,0}) hll2)))))))) ?_
    refine w_r w1 ?_
    exact ⟨j.l.length - (i + 1),by omega,i + 1,M ++ [.cells (jC y)],t0,rfl,ex_stH (by rw [← List.append_assoc,gg,← e2]) rfl⟩
   ·obtain rfl : i = j.l.length := by omega
    have f1 : ((j.l.length : Int) < (j.l.length : Int)) = False := eq_false (by omega)
    rw [List.take_length]
    obtain ⟨G,h1,h2,h3⟩ : ∃ G : AObj → AHeap,(∀ a,K a (outL j.k j.n j.t (j.l.map orderJ)) ++ M = G a) ∧ (∀ a,(G a)[H.length + 2]? = some (outL j.k j.n j.t (j.l.map orderJ))) ∧ (∀ a a',(G a).set (H.length + 1) a' = G a') ∧ (∀ a,(G a)[H.length + 1]? = some a) := by
     refine ⟨fun a => K a (outL j.k j.n j.t (j.l.map orderJ)) ++ M,fun _ => rfl,fun a => ?_,fun a a' => ?_,fun a => ?_⟩
     ·simp only [kk,List.append_assoc]; rw [List.getElem?_append_right (by omega)]; simp
     ·simp only [kk,List.append_assoc]; rw [List.set_append_right _ _ (by omega)]; simp
     ·simp only [kk,List.append_assoc]; rw [List.getElem?_append_right (by omega)]; simp
    rw [h1]
    obtain ⟨h3,h4⟩ := h3
    refine w_r (j_ f1 (j_ h2 (j_ h3 (j_ h4 hll1)))) ?_
    refine ans_cut (vs := [.d (.agg [.int .i64 j.k,.int .i64 j.n,.str j.t,sD [],jsD (j.l.map orderJ)])]) ?_ rfl ⟨by rw [jd]; rfl,rfl⟩
    simp only [resV,zz,simprocAttr,h4]; rfl
end Go.Proofs.YtmhmjlfajlpabaaDoor
namespace Go.Proofs.YtmhmjlfajlpabaaDoor
open Go Go.Abs Go.Lib
theorem b_and (k : IntKind) (a b : Nat) : binInt .and k (a : Int) (b : Int) = some (.int k (k.wrap (((a % 2 ^ k.bits) &&& (b % 2 ^ k.bits) : Nat) : Int))) := by
 have : binInt .and k (a : Int) (b : Int) = some (.int k (k.wrap ((BitVec.ofInt k.bits (a : Int) &&& BitVec.ofInt k.bits (b : Int)).toNat : Nat))) := rfl
 rw [this,ofInt_nat,ofInt_nat,BitVec.toNat_and,BitVec.toNat_ofNat,BitVec.toNat_ofNat]
theorem b_or (k : IntKind) (a b : Nat) : binInt .or k (a : Int) (b : Int) = some (.int k (k.wrap (((a % 2 ^ k.bits) ||| (b % 2 ^ k.bits) : Nat) : Int))) := by
 have : binInt .or k (a : Int) (b : Int) = some (.int k (k.wrap ((BitVec.ofInt k.bits (a : Int) ||| BitVec.ofInt k.bits (b : Int)).toNat : Nat))) := rfl
 rw [this,ofInt_nat,ofInt_nat,BitVec.toNat_or,BitVec.toNat_ofNat,BitVec.toNat_ofNat]
theorem and31 (b : Nat) (hb : b < 256) : binInt .and .i64 (b : Int) 31 = some (.int .i64 ((b % 32 : Nat) : Int)) := by
 have := b_and .i64 b 31
 rw [show IntKind.i64.bits = 64 from rfl,Nat.mod_eq_of_lt (a := b) (show b < 2 ^ 64 by omega),Nat.mod_eq_of_lt (a := 31) (show 31 < 2 ^ 64 by omega),Nat.and_two_pow_sub_one_eq_mod b 5,w64n _ (by omega)] at this
 exact this
theorem and15 (b : Nat) (hb : b < 256) : binInt .and .i64 (b : Int) 15 = some (.int .i64 ((b % 16 : Nat) : Int)) := by
 have := b_and .i64 b 15
 rw [show IntKind.i64.bits = 64 from rfl,Nat.mod_eq_of_lt (a := b) (show b < 2 ^ 64 by omega),Nat.mod_eq_of_lt (a := 15) (show 15 < 2 ^ 64 by omega),Nat.and_two_pow_sub_one_eq_mod b 4,w64n _ (by omega)] at this
 exact this
theorem and7 (b : Nat) (hb : b < 256) : binInt .and .i64 (b : Int) 7 = some (.int .i64 ((b % 8 : Nat) : Int)) := by
 have := b_and .i64 b 7
 rw [show IntKind.i64.bits = 64 from rfl,Nat.mod_eq_of_lt (a := b) (show b < 2 ^ 64 by omega),Nat.mod_eq_of_lt (a := 7) (show 7 < 2 ^ 64 by omega),Nat.and_two_pow_sub_one_eq_mod b 3,w64n _ (by omega)] at this
 exact this
theorem and63u (b : Nat) (hb : b < 256) : binInt .and .u8 (b : Int) 63 = some (.int .u8 ((b % 64 : Nat) : Int)) := by
 have := b_and .u8 b 63
 rw [show IntKind.u8.bits = 8 from rfl,Nat.mod_eq_of_lt (a := b) (show b < 2 ^ 8 by omega),Nat.mod_eq_of_lt (a := 63) (show 63 < 2 ^ 8 by omega),Nat.and_two_pow_sub_one_eq_mod b 6,u8w _ (by omega)] at this
 exact this
set_option maxRecDepth 100000 in
--
theorem land192 : ∀ b : Fin 256,b.val &&& 192 = b.val / 64 * 64 := by decide
theorem and192u (b : Nat) (hb : b < 256) : binInt .and .u8 (b : Int) 192 = some (.int .u8 ((b / 64 * 64 : Nat) : Int)) := by
 have := b_and .u8 b 192
 rw [show IntKind.u8.bits = 8 from rfl,Nat.mod_eq_of_lt (a := b) (show b < 2 ^ 8 by omega),Nat.mod_eq_of_lt (a := 192) (show 192 < 2 ^ 8 by omega),land192 ⟨b,hb⟩,u8w _ (by dsimp only; omega)] at this
 exact this
theorem shl6 (c : Nat) (hc : c < 1099511627776) : shiftInt .shl .i64 (c : Int) 6 = some (.int .i64 ((c * 64 : Nat) : Int)) := by
 have h : shiftInt .shl .i64 (c : Int) 6 = some (.int .i64 (IntKind.i64.wrap ((c : Int) * 2 ^ 6))) := rfl
 have : (c : Int) * 2 ^ 6 = ((c * 64 : Nat) : Int) := by omega
 rw [h,this,w64n _ (by omega)]
theorem or6 (c x : Nat) (hc : c < 1099511627776) (hx : x < 64) : binInt .or .i64 ((c * 64 : Nat) : Int) (x : Int) = some (.int .i64 ((c * 64 + x : Nat) : Int)) := by
 have := b_or .i64 (c * 64) x
 have e := Nat.shiftLeft_add_eq_or_of_lt (i := 6) (b := x) (by omega) c
 rw [Nat.shiftLeft_eq] at e
 rw [show IntKind.i64.bits = 64 from rfl,Nat.mod_eq_of_lt (a := c * 64) (show c * 64 < 2 ^ 64 by omega),Nat.mod_eq_of_lt (a := x) (show x < 2 ^ 64 by omega),← e,w64n _ (by omega)] at this
 exact this
theorem fn_out {f : FuncId} {lim : Nat} {a : List AV} {H : AHeap} {Q : AV → AHeap → Prop} (h : Go.Abs.Fn (envN code primsF) f lim a H Q) : ∃ v H',Ev (envN code primsF) f lim a H v H' ∧ Q v H' := by
 unfold Go.Abs.Fn at h; exact h
theorem all_cut {α : Type} {l : List α} {i : Nat} {x : α} (h : l[i]? = some x) (f : α → Bool) : (l.take (i + 1)).all f = ((l.take i).all f && f x) := by
 rw [List.take_add_one,h,List.all_append]; simp
theorem any_cut {α : Type} {l : List α} {i : Nat} {x : α} (h : l[i]? = some x) (f : α → Bool) : (l.take (i + 1)).any f = ((l.take i).any f || f x) := by
 rw [List.take_add_one,h,List.any_append]; simp
theorem all_no {α : Type} {l : List α} {i : Nat} {x : α} (h : l[i]? = some x) {f : α → Bool} (hf : f x = false) : l.all f = false := by
 rw [List.all_eq_false]; exact ⟨x,List.mem_of_getElem? h,by simp [hf]⟩
theorem any_yes {α : Type} {l : List α} {i : Nat} {x : α} (h : l[i]? = some x) {f : α → Bool} (hf : f x = true) : l.any f = true := by
 rw [List.any_eq_true]; exact ⟨x,List.mem_of_getElem? h,hf⟩
def midK (P : St → Prop) (Q : AExit → St → Prop) : AExit → St → Prop
 | .normal,s => P s
 | .exit i,s => Q (.exit i) s
 | .ret,s => Q .ret s
theorem W_midR {a b : CCode} {st : St} {Q : AExit → St → Prop} {lim : Nat} (P : St → Prop) (h1 : W (envN code primsF) lim a st (midK P Q)) (h2 : ∀ s,P s → W (envN code primsF) lim b s Q) : W (envN code primsF) lim (.seq a b) st Q :=
 W_sq (h1.mono fun e s h => by
  cases e with
  | normal => simp only [seqK]; exact h2 s h
  | exit i => simp only [seqK]; exact h
  | ret => simp only [seqK]; exact h)
def isLet (c : Nat) : Bool := decide (c ≤ 1114111) && (decide (c < 55296) || decide (57343 < c))
theorem isLet_iff (c : Nat) : isLet c = true ↔ c ≤ 1114111 ∧ (c < 55296 ∨ 57343 < c) := by simp [isLet]
set_option maxRecDepth 100000 in
theorem letter_ev (lim : Nat) (H : AHeap) (c : Nat) : Ev (envN code primsF) 49 lim [intD c] H (boolD (isLet c)) H := by
 refine Fn.ev ?_
 refine Fn_of (pn rfl) rfl (show code 49 = some c49 from rfl) rfl ?_; simp only [List.length_cons,List.length_nil,List.cons_append,List.nil_append,simprocAttr]
 have f0 : ((c : Int) ≥ 0) = True := eq_true (by omega)
 obtain ⟨r,hr⟩ : ∃ r,isLet c = r := ⟨_,rfl⟩
 rw [hr]
 have yes : c ≤ 1114111 → (c < 55296 ∨ 57343 < c) → r = true := fun a b => hr ▸ (isLet_iff c).2 ⟨a,b⟩
 have no : ¬ (c ≤ 1114111 ∧ (c < 55296 ∨ 57343 < c)) → r = false := fun a => hr ▸ (Bool.not_eq_true _ ▸ mt (isLet_iff c).1 a)
 generalize e1 : (1114111 : Int) = u1
 generalize e2 : (55296 : Int) = u2
 generalize e3 : (57343 : Int) = u3
 by_cases h1 : c ≤ 1114111
 ·have f1 : ((c : Int) ≤ u1) = True := eq_true (by omega)
  by_cases h2 : c < 55296
  ·have f2 : ((c : Int) < u2) = True := eq_true (by omega)
   rw [yes h1 (.inl h2)]
   clear yes no
   refine w_r (j_ f0 (j_ f1 f2)) ?_
   exact ans_cut rfl rfl ⟨rfl,rfl⟩
  ·have f2 : ((c : Int) < u2) = False := eq_false (by omega)
   by_cases h3 : 57343 < c
   ·have f3 : ((c : Int) > u3) = True := eq_true (by omega)
    rw [yes h1 (.inr h3)]
    refine w_r (j_ f0 (j_ f1 (j_ f2 f3))) ?_
    exact ans_cut rfl rfl ⟨rfl,rfl⟩
   ·have f3 : ((c : Int) > u3) = False := eq_false (by omega)
    rw [no (by omega)]
    refine w_r (j_ f0 (j_ f1 (j_ f2 f3))) ?_
    exact ans_cut rfl rfl ⟨rfl,rfl⟩
 ·have f1 : ((c : Int) ≤ u1) = False := eq_false (by omega)
  rw [no (by omega)]
  refine w_r (j_ f0 f1) ?_
  exact ans_cut rfl rfl ⟨rfl,rfl⟩
def acc (s : List UInt8) (a c0 : Nat) : Nat → Nat
 | 0 => c0
 | j + 1 => acc s a c0 j * 64 + by' s (a + (j + 1)) % 64
theorem acc_lt (s : List UInt8) (a c0 : Nat) (h : c0 < 64) : ∀ j,acc s a c0 j < 64 ^ (j + 1)
 | 0 => by simpa [acc] using h
 | j + 1 => by
  have := acc_lt s a c0 h j
  have e : 64 ^ (j + 1 + 1) = 64 ^ (j + 1) * 64 := Nat.pow_succ ..
  unfold acc; omega
def Cls (b m least c0 : Nat) : Prop := (m = 1 ∧ least = 128 ∧ b / 32 = 6 ∧ c0 = b % 32) ∨ (m = 2 ∧ least = 2048 ∧ b / 16 = 14 ∧ c0 = b % 16) ∨ (m = 3 ∧ least = 65536 ∧ b / 8 = 30 ∧ c0 = b % 8)
theorem Cls.yes {s : List UInt8} {a m least c0 : Nat} (h : Cls (by' s a) m least c0) (ha : a < s.length) (hc : ∀ j,1 ≤ j → j ≤ m → a + j < s.length ∧ by' s (a + j) / 64 = 2)
  (h1 : ¬ acc s a c0 m < least) (h2 : acc s a c0 m ≤ 1114111 ∧ (acc s a c0 m < 55296 ∨ 57343 < acc s a c0 m)) : (dc (s.drop a)).2 = m + 1 := by
 have hd : dc (s.drop a) = decodeN (s.length - a) (by' s a) (by' s (a + 1)) (by' s (a + 2)) (by' s (a + 3)) := by unfold dc; simp only [by_drop,List.length_drop,Nat.add_zero]
 rw [hd]
 rcases h with ⟨rfl,rfl,h3,rfl⟩ | ⟨rfl,rfl,h3,rfl⟩ | ⟨rfl,rfl,h3,rfl⟩
 ·have c1 := hc 1 (by omega) (by omega)
  simp only [acc] at h1 h2
  unfold decodeN
  rw [if_neg (by omega),if_pos ⟨h3,by omega,c1.2⟩,if_pos (by simpa using h1)]
 ·have c1 := hc 1 (by omega) (by omega)
  have c2 := hc 2 (by omega) (by omega)
  simp only [acc,Nat.reduceAdd] at h1 h2
  unfold decodeN
  rw [if_neg (by omega),if_neg (by omega),if_pos ⟨h3,⟨by omega,c1.2⟩,⟨by omega,c2.2⟩⟩,if_pos (by omega)]
 ·have c1 := hc 1 (by omega) (by omega)
  have c2 := hc 2 (by omega) (by omega)
  have c3 := hc 3 (by omega) (by omega)
  simp only [acc,Nat.reduceAdd] at h1 h2
  unfold decodeN
  rw [if_neg (by omega),if_neg (by omega),if_neg (by omega),if_pos ⟨h3,⟨by omega,c1.2⟩,⟨by omega,c2.2⟩,⟨by omega,c3.2⟩⟩,if_pos (by omega)]
theorem Cls.no {s : List UInt8} {a m least c0 : Nat} (h : Cls (by' s a) m least c0)
  (hn : (∃ j,1 ≤ j ∧ j ≤ m ∧ (¬ a + j < s.length ∨ by' s (a + j) / 64 ≠ 2)) ∨ acc s a c0 m < least ∨ ¬ (acc s a c0 m ≤ 1114111 ∧ (acc s a c0 m < 55296 ∨ 57343 < acc s a c0 m))) : dc (s.drop a) = (65533,1) := by
 have hd : dc (s.drop a) = decodeN (s.length - a) (by' s a) (by' s (a + 1)) (by' s (a + 2)) (by' s (a + 3)) := by unfold dc; simp only [by_drop,List.length_drop,Nat.add_zero]
 rw [hd]
 have bad : ∀ j,(¬ a + j < s.length ∨ by' s (a + j) / 64 ≠ 2) → ¬ (j < s.length - a ∧ by' s (a + j) / 64 = 2) := fun j h k => by omega
 rcases h with ⟨rfl,rfl,h3,rfl⟩ | ⟨rfl,rfl,h3,rfl⟩ | ⟨rfl,rfl,h3,rfl⟩
 ·unfold decodeN
  rw [if_neg (by omega)]
  by_cases k : 1 < s.length - a ∧ by' s (a + 1) / 64 = 2
  ·rw [if_pos ⟨h3,k⟩]
   rcases hn with ⟨j,h4,h5,h6⟩ | hn
   ·obtain rfl : j = 1 := by omega
    exact absurd k (bad _ h6)
   ·simp only [acc] at hn
    split
    ·exfalso; omega
    ·rfl
  ·rw [if_neg (fun h => k h.2),if_neg (by omega),if_neg (by omega)]
 ·unfold decodeN
  rw [if_neg (by omega),if_neg (by omega)]
  by_cases k : (1 < s.length - a ∧ by' s (a + 1) / 64 = 2) ∧ (2 < s.length - a ∧ by' s (a + 2) / 64 = 2)
  ·rw [if_pos ⟨h3,k⟩]
   rcases hn with ⟨j,h4,h5,h6⟩ | hn
   ·obtain rfl | rfl : j = 1 ∨ j = 2 := by omega
    ·exact absurd k.1 (bad _ h6)
    ·exact absurd k.2 (bad _ h6)
   ·simp only [acc,Nat.reduceAdd] at hn
    split
    ·exfalso; omega
    ·rfl
  ·rw [if_neg (fun h => k h.2),if_neg (by omega)]
 ·unfold decodeN
  rw [if_neg (by omega),if_neg (by omega),if_neg (by omega)]
  by_cases k : (1 < s.length - a ∧ by' s (a + 1) / 64 = 2) ∧ (2 < s.length - a ∧ by' s (a + 2) / 64 = 2) ∧ (3 < s.length - a ∧ by' s (a + 3) / 64 = 2)
  ·rw [if_pos ⟨h3,k⟩]
   rcases hn with ⟨j,h4,h5,h6⟩ | hn
   ·obtain rfl | rfl | rfl : j = 1 ∨ j = 2 ∨ j = 3 := by omega
    ·exact absurd k.1 (bad _ h6)
    ·exact absurd k.2.1 (bad _ h6)
    ·exact absurd k.2.2 (bad _ h6)
   ·simp only [acc,Nat.reduceAdd] at hn
    split
    ·exfalso; omega
    ·rfl
  ·rw [if_neg (fun h => k h.2)]
theorem Cls.ascii {s : List UInt8} {a : Nat} (h : by' s a < 128) : dc (s.drop a) = (by' s a,1) := by
 have hd : dc (s.drop a) = decodeN (s.length - a) (by' s a) (by' s (a + 1)) (by' s (a + 2)) (by' s (a + 3)) := by unfold dc; simp only [by_drop,List.length_drop,Nat.add_zero]
 rw [hd]; unfold decodeN; rw [if_pos h]
theorem Cls.none {s : List UInt8} {a : Nat} (h : (128 ≤ by' s a ∧ by' s a < 192) ∨ 248 ≤ by' s a) : dc (s.drop a) = (65533,1) := by
 have hd : dc (s.drop a) = decodeN (s.length - a) (by' s a) (by' s (a + 1)) (by' s (a + 2)) (by' s (a + 3)) := by unfold dc; simp only [by_drop,List.length_drop,Nat.add_zero]
 rw [hd]; unfold decodeN; rw [if_neg (by omega),if_neg (by omega),if_neg (by omega),if_neg (by omega)]
theorem Cls.two {s : List UInt8} {a m least c0 b : Nat} (h : Cls b m least c0) (hy : (dc (s.drop a)).2 = m + 1) (e : dc (s.drop a) = (65533,1)) : False := by
 rw [e] at hy
 have h1 : 1 ≤ m := by rcases h with h | h | h <;> omega
 have h2 : 1 = m + 1 := hy
 omega
def RuneQ (s : List UInt8) (a : Nat) (H : AHeap) (v : AV) (H' : AHeap) : Prop := (∃ (r : Int) (n : Nat),v = .tuple [.d (.int .i64 r),intD n] ∧ max 1 n = (dc (s.drop a)).2 ∧ n ≤ 4 ∧ decide (n = 0) = decide (dc (s.drop a) = (65533,1))) ∧ H' = H
theorem rune_no {s : List UInt8} {a : Nat} (h : dc (s.drop a) = (65533,1)) : max 1 0 = (dc (s.drop a)).2 ∧ (0 : Nat) ≤ 4 ∧ decide ((0 : Nat) = 0) = decide (dc (s.drop a) = (65533,1)) := by
 rw [h]; exact ⟨rfl,by omega,by simp⟩
theorem rune_yes {s : List UInt8} {a n : Nat} (h1 : 1 ≤ n) (h4 : n ≤ 4) (h : (dc (s.drop a)).2 = n) (hn : dc (s.drop a) ≠ (65533,1)) : max 1 n = (dc (s.drop a)).2 ∧ n ≤ 4 ∧ decide (n = 0) = decide (dc (s.drop a) = (65533,1)) :=
 ⟨by omega,h4,by rw [decide_eq_false hn,decide_eq_false (by omega)]⟩
theorem toInt64 (b : Nat) (h : b < 256) : IntKind.i64.wrap (b : Int) = b := w64n _ (by omega)
set_option maxHeartbeats 4000000 in
--
theorem rune_ev (lim : Nat) (H : AHeap) (s : List UInt8) (a : Nat) (ha : a < s.length) (hs : s.length ≤ 100000000000) : Go.Abs.Fn (envN code primsF) 32 lim [.d (.str s),intD a] H (RuneQ s a H) := by
 refine Fn_of (pn rfl) rfl (show code 32 = some c32 from rfl) rfl ?_; simp only [List.length_cons,List.length_nil,List.cons_append,List.nil_append,simprocAttr]
 obtain ⟨b,hb⟩ : ∃ b,s[a]? = some b := ⟨_,List.getElem?_eq_getElem ha⟩
 have hby := by_some hb
 have hlt := by_lt s a
 rw [hby] at hlt
 have hal : (a : Int) < s.length := by omega
 have g1 := toInt64 b.toNat hlt
 by_cases k0 : b.toNat < 128
 ·have f0 : ((b.toNat : Int) < 128) = True := eq_true (by omega)
  refine w_r (j_ hb (j_ @byteD.eq_1 (j_ g1 f0))) ?_
  exact ans_cut rfl rfl ⟨⟨_,1,rfl,rune_yes (by omega) (by omega) (by rw [Cls.ascii (by omega)]) (by rw [Cls.ascii (by omega)]; intro e; have := congrArg Prod.fst e; simp only at this; omega)⟩,rfl⟩
 have f0 : ((b.toNat : Int) < 128) = False := eq_false (by omega)
 (iterate 11 refine w_s (j_ hb (j_ @byteD.eq_1 (j_ g1 f0))) ?_)
 refine W_midR (fun st => ∃ m least c0 : Nat,Cls (by' s a) m least c0 ∧ ∃ x : Nat → AV,st = ⟨[.d (.str s),intD a,x 2,x 3,x 4,x 5,x 6,x 7,x 8,intD 0,intD 0,intD c0,intD m,intD least,x 14,x 15,x 16,x 17,x 18],H⟩) ?_ ?_
 ·have n1 := and31 _ hlt
  have n2 := and15 _ hlt
  have n3 := and7 _ hlt
  by_cases k1 : 192 ≤ b.toNat
  ·have f1 : ((b.toNat : Int) ≥ 192) = True := eq_true (by omega)
   by_cases k2 : b.toNat < 224
   ·have f2 : ((b.toNat : Int) < 224) = True := eq_true (by omega)
    refine w_r (j_ f1 (j_ f2 n1)) ?_
    exact ⟨1,128,b.toNat % 32,.inl ⟨rfl,rfl,by omega,by rw [hby]⟩,ex_st _ _ _ rfl⟩
   have f2 : ((b.toNat : Int) < 224) = False := eq_false (by omega)
   have f3 : ((b.toNat : Int) ≥ 224) = True := eq_true (by omega)
   by_cases k3 : b.toNat < 240
   ·have f4 : ((b.toNat : Int) < 240) = True := eq_true (by omega)
    refine w_r (j_ f1 (j_ f2 (j_ f3 (j_ f4 n2)))) ?_
    exact ⟨2,2048,b.toNat % 16,.inr (.inl ⟨rfl,rfl,by omega,by rw [hby]⟩),ex_st _ _ _ rfl⟩
   have f4 : ((b.toNat : Int) < 240) = False := eq_false (by omega)
   have f5 : ((b.toNat : Int) ≥ 240) = True := eq_true (by omega)
   by_cases k4 : b.toNat < 248
   ·have f6 : ((b.toNat : Int) < 248) = True := eq_true (by omega)
    refine w_r (j_ f1 (j_ f2 (j_ f3 (j_ f4 (j_ f5 (j_ f6 n3)))))) ?_
    exact ⟨3,65536,b.toNat % 8,.inr (.inr ⟨rfl,rfl,by omega,by rw [hby]⟩),ex_st _ _ _ rfl⟩
   ·have f6 : ((b.toNat : Int) < 248) = False := eq_false (by omega)
    refine w_r (j_ f1 (j_ f2 (j_ f3 (j_ f4 (j_ f5 (j_ f6 n3)))))) ?_
    exact ans_cut rfl rfl ⟨⟨_,0,rfl,rune_no (Cls.none (by omega))⟩,rfl⟩
  ·have f1 : ((b.toNat : Int) ≥ 192) = False := eq_false (by omega)
   have f3 : ((b.toNat : Int) ≥ 224) = False := eq_false (by omega)
   have f5 : ((b.toNat : Int) ≥ 240) = False := eq_false (by omega)
   refine w_r (j_ f1 (j_ f3 f5)) ?_
   exact ans_cut rfl rfl ⟨⟨_,0,rfl,rune_no (Cls.none (by omega))⟩,rfl⟩
 ·rintro _ ⟨m,least,c0,hcls,x,rfl⟩
  have hm : m ≤ 3 := by rcases hcls with h | h | h <;> omega
  have hc0 : c0 < 64 := by rcases hcls with h | h | h <;> omega
  have hacc : ∀ j,j ≤ 3 → acc s a c0 j < 16777216 := fun j hj => by
   have h1 := acc_lt s a c0 hc0 j
   have h2 : 64 ^ (j + 1) ≤ 64 ^ 4 := Nat.pow_le_pow_right (by decide) (by omega)
   omega
  refine w_r trivial ?_
  refine W_lp (fun k st => ∃ i : Nat,i ≤ m ∧ k = m - i ∧ (∀ j,1 ≤ j → j ≤ i → a + j < s.length ∧ by' s (a + j) / 64 = 2) ∧ ∃ x : Nat → AV,st = ⟨[.d (.str s),intD a,x 2,x 3,x 4,x 5,x 6,x 7,x 8,intD 0,intD 0,intD (acc s a c0 i),intD m,intD least,intD (i + 1 : Nat),x 15,x 16,x 17,x 18],H⟩) ?_ _ _ ⟨0,Nat.zero_le _,rfl,fun j h1 h2 => by omega,ex_st _ _ _ rfl⟩
  rintro k _ ⟨i,hi,rfl,hall,x,rfl⟩
  by_cases q0 : i + 1 ≤ m
  ·have f0 : (((i + 1 : Nat) : Int) ≤ (m : Int)) = True := eq_true (by omega)
   have w1 : IntKind.i64.wrap ((a : Int) + ((i + 1 : Nat) : Int)) = ((a + (i + 1) : Nat) : Int) := by rw [w64 (by omega) (by omega)]; omega
   by_cases q1 : a + (i + 1) < s.length
   ·have f1 : (((a + (i + 1) : Nat) : Int) ≥ (s.length : Int)) = False := eq_false (by omega)
    obtain ⟨d,hd⟩ : ∃ d,s[a + (i + 1)]? = some d := ⟨_,List.getElem?_eq_getElem q1⟩
    have hdl := d.toNat_lt
    have hdb := by_some hd
    have n4 := and192u d.toNat hdl
    have n5 := and63u d.toNat hdl
    by_cases q2 : d.toNat / 64 = 2
    ·have f2 : (((d.toNat / 64 * 64 : Nat) : Int) != 128) = false := by rw [q2]; rfl
     have n6 := shl6 (acc s a c0 i) (by have := hacc i (by omega); omega)
     have n7 : IntKind.i64.wrap ((d.toNat % 64 : Nat) : Int) = ((d.toNat % 64 : Nat) : Int) := w64n _ (by omega)
     have n8 := or6 (acc s a c0 i) (d.toNat % 64) (by have := hacc i (by omega); omega) (by omega)
     have w2 : IntKind.i64.wrap (((i + 1 : Nat) : Int) + 1) = ((i + 1 + 1 : Nat) : Int) := by rw [w64 (by omega) (by omega)]; omega
     refine w_r (j_ f0 (j_ f1 (j_ f2 (j_ w1 (j_ w2 (j_ hd (j_ @byteD.eq_1 (j_ n4 (j_ n5 (j_ n6 (j_ n7 n8))))))))))) ?_
     refine ⟨m - (i + 1),by omega,i + 1,q0,rfl,?_,?_⟩
     ·intro j h1 h2
      by_cases h3 : j ≤ i
      ·exact hall j h1 h3
      ·obtain rfl : j = i + 1 := by omega
       exact ⟨q1,by rw [hdb]; exact q2⟩
     ·have e : acc s a c0 (i + 1) = acc s a c0 i * 64 + d.toNat % 64 := by rw [← hdb]; rfl
      rw [e]
      exact ex_st _ _ _ rfl
    ·have f2 : (((d.toNat / 64 * 64 : Nat) : Int) != 128) = true := by
      have : ((d.toNat / 64 * 64 : Nat) : Int) ≠ 128 := by omega
      simpa using this
     refine w_r (j_ f0 (j_ f1 (j_ f2 (j_ w1 (j_ hd (j_ @byteD.eq_1 n4)))))) ?_
     exact ans_cut rfl rfl ⟨⟨_,0,rfl,rune_no (Cls.no hcls (.inl ⟨i + 1,by omega,q0,.inr (by rw [hdb]; exact q2)⟩))⟩,rfl⟩
   ·have f1 : (((a + (i + 1) : Nat) : Int) ≥ (s.length : Int)) = True := eq_true (by omega)
    refine w_r (j_ f0 (j_ f1 w1)) ?_
    exact ans_cut rfl rfl ⟨⟨_,0,rfl,rune_no (Cls.no hcls (.inl ⟨i + 1,by omega,q0,.inl q1⟩))⟩,rfl⟩
  ·obtain rfl : i = m := by omega
   have f0 : (((i + 1 : Nat) : Int) ≤ (i : Int)) = False := eq_false (by omega)
   by_cases q1 : acc s a c0 i < least
   ·have f1 : ((acc s a c0 i : Int) < (least : Int)) = True := eq_true (by omega)
    refine w_r (j_ f0 f1) ?_
    exact ans_cut rfl rfl ⟨⟨_,0,rfl,rune_no (Cls.no hcls (.inr (.inl q1)))⟩,rfl⟩
   ·have f1 : ((acc s a c0 i : Int) < (least : Int)) = False := eq_false (by omega)
    have w1 : IntKind.i64.wrap ((i : Int) + 1) = ((i + 1 : Nat) : Int) := wsucc (by omega)
    have hl := isLet_iff (acc s a c0 i)
    have he := letter_ev H.length H (acc s a c0 i)
    generalize isLet (acc s a c0 i) = r at hl he
    (iterate 6 refine w_s f0 ?_)
    cases r with
    | true =>
     refine w_1 he f1 ?_
     refine w_r w1 ?_
     exact ans_cut rfl rfl ⟨⟨_,i + 1,rfl,have hy := Cls.yes hcls ha (fun j h1 h2 => hall j h1 h2) q1 (hl.1 rfl); rune_yes (by omega) (by omega) hy (fun e => Cls.two hcls hy e)⟩,rfl⟩
    | false =>
     refine w_1 he f1 ?_
     refine w_r trivial ?_
     exact ans_cut rfl rfl ⟨⟨_,0,rfl,rune_no (Cls.no hcls (.inr (.inr fun h => by cases hl.2 h)))⟩,rfl⟩
theorem decodeL_dc (l : List UInt8) : decodeL l = dc l := by
 have := dec_dc l 0
 rw [List.drop_zero] at this
 exact this
theorem valid_more : ∀ (n m : Nat) (s : List UInt8),s.length ≤ n → s.length ≤ m → validGoD n s = validGoD m s
 | 0,0,_,_,_ => rfl
 | 0,m + 1,s,h,_ => by
  have : s = [] := List.length_eq_zero_iff.1 (by omega)
  subst this; simp [validGoD]
 | n + 1,0,s,_,h => by
  have : s = [] := List.length_eq_zero_iff.1 (by omega)
  subst this; simp [validGoD]
 | n + 1,m + 1,s,h1,h2 => by
  unfold validGoD
  have := dc_pos s
  rw [decodeL_dc,valid_more n m (s.drop (dc s).2) (by simp; omega) (by simp; omega)]
theorem valid_cons {s : List UInt8} (h : s ≠ []) : vB s = if dc s = (65533,1) then false else vB (s.drop (dc s).2) := by
 show validGoD s.length s = if dc s = (65533,1) then false else validGoD (s.drop (dc s).2).length (s.drop (dc s).2)
 have h1 := List.length_pos_iff.2 h
 have h2 := dc_pos s
 obtain ⟨n,hn⟩ : ∃ n,s.length = n + 1 := ⟨s.length - 1,by omega⟩
 rw [hn]
 show (if s = [] then true else if (decodeL s).1 = 65533 ∧ (decodeL s).2 = 1 then false else validGoD n (s.drop (decodeL s).2)) = _
 rw [if_neg h,decodeL_dc]
 by_cases hd : dc s = (65533,1)
 ·rw [if_pos hd,if_pos (by rw [hd]; exact ⟨rfl,rfl⟩)]
 ·rw [if_neg hd,if_neg (fun k => hd (Prod.ext k.1 k.2))]
  exact valid_more _ _ _ (by simp; omega) (Nat.le_refl _)
def BadQ (s : List UInt8) (H : AHeap) (v : AV) (H' : AHeap) : Prop := (∃ r : Int,v = intD r ∧ decide (r < 0) = vB s) ∧ H' = H
theorem bad_ev (lim : Nat) (H : AHeap) (s : List UInt8) (hs : s.length ≤ 100000000000) : Go.Abs.Fn (envN code primsF) 18 lim [.d (.str s)] H (BadQ s H) := by
 refine Fn_of (pn rfl) rfl (show code 18 = some c18 from rfl) rfl ?_; simp only [List.length_cons,List.length_nil,List.cons_append,List.nil_append,simprocAttr]
 refine w_r trivial ?_
 refine W_lp (fun k st => ∃ a : Nat,a ≤ s.length ∧ k = s.length - a ∧ vB s = vB (s.drop a) ∧ ∃ x : Nat → AV,st = ⟨[.d (.str s),x 1,x 2,intD 0,intD a,x 5,x 6,x 7],H⟩) ?_ _ _ ⟨0,Nat.zero_le _,rfl,rfl,ex_st _ _ _ rfl⟩
 rintro k _ ⟨a,ha,rfl,hv,x,rfl⟩
 by_cases q0 : a < s.length
 ·have f0 : ((a : Int) < (s.length : Int)) = True := eq_true (by omega)
  obtain ⟨_,_,he,⟨r,n,rfl,hn,hn4,hn0⟩,rfl⟩ := fn_out (rune_ev H.length H s a q0 hs)
  have hne : s.drop a ≠ [] := fun e => by have := congrArg List.length e; simp at this; omega
  have hle := dc_le hne
  have hpos := dc_pos (s.drop a)
  rw [valid_cons hne] at hv
  rw [List.length_drop] at hle
  by_cases h0 : n = 0
  ·subst h0
   have hd : dc (s.drop a) = (65533,1) := by simpa using hn0.symm
   rw [if_pos hd] at hv
   have f1 : (((0 : Nat) : Int) == 0) = true := rfl
   refine w_r f0 ?_
   refine W_region ?_; refine WO_call ?_; simp only [zz,simprocAttr]; refine Ev.fn he ?_
   (apply WO_end; (focus (intro _; simp only [zz,simprocAttr]; (first | done | with_reducible exact rfl)))) <;> (try simp only [zp,simprocAttr])
   refine w_r f1 ?_
   exact ans_cut rfl rfl ⟨⟨_,rfl,by rw [hv]; exact decide_eq_false (by omega)⟩,rfl⟩
  ·have hd : dc (s.drop a) ≠ (65533,1) := by
    rw [decide_eq_false h0] at hn0
    exact of_decide_eq_false hn0.symm
   rw [if_neg hd,List.drop_drop] at hv
   have hm : (dc (s.drop a)).2 = n := by omega
   rw [hm] at hv hle
   have f1 : ((n : Int) == 0) = false := by simp; omega
   have w1 : IntKind.i64.wrap ((a : Int) + (n : Int)) = ((a + n : Nat) : Int) := by rw [w64 (by omega) (by omega)]; omega
   refine w_r f0 ?_
   refine W_region ?_; refine WO_call ?_; simp only [zz,simprocAttr]; refine Ev.fn he ?_
   (apply WO_end; (focus (intro _; simp only [zz,simprocAttr]; (first | done | with_reducible exact rfl)))) <;> (try simp only [zp,simprocAttr])
   refine w_r (j_ f1 w1) ?_
   exact ⟨s.length - (a + n),by omega,a + n,by omega,rfl,hv,ex_st _ _ _ rfl⟩
 ·obtain rfl : a = s.length := by omega
  have f0 : ((s.length : Int) < (s.length : Int)) = False := eq_false (by omega)
  rw [List.drop_length] at hv
  refine w_r f0 ?_
  exact ans_cut rfl rfl ⟨⟨_,rfl,by rw [hv]; rfl⟩,rfl⟩
theorem nodup_step {ks : List Tx} {i : Nat} {s : Tx} (h : ks[i]? = some s) (hn : (ks.take i).Nodup) (hs : s ∉ ks.take i) : (ks.take (i + 1)).Nodup := by
 rw [List.take_add_one,h]
 refine List.nodup_append.2 ⟨hn,by simp,fun a ha b hb e => ?_⟩
 have : b = s := by simpa using hb
 subst this
 subst e
 exact hs ha
theorem nodup_no {ks : List Tx} {i j : Nat} {s : Tx} (h : ks[i]? = some s) (h2 : ks[j]? = some s) (hj : j < i) : namedB ks = false := by
 unfold namedB
 have : ¬ ks.Nodup := fun hn => by
  have h3 : ks[j]? = ks[i]? := by rw [h,h2]
  obtain ⟨hi,hi2⟩ := List.getElem?_eq_some_iff.1 h
  have := (List.getElem?_inj (by omega) hn).1 h3
  omega
 rw [decide_eq_false this,Bool.and_false]
theorem mem_take_of {ks : List Tx} {i : Nat} {s : Tx} (h : ∀ j,j < i → ks[j]? ≠ some s) : s ∉ ks.take i := fun hm => by
 obtain ⟨j,hj,he⟩ := List.getElem_of_mem hm
 have hj' : j < i := by simp at hj; omega
 refine h j hj' ?_
 rw [List.getElem_take] at he
 rw [← he]
 exact List.getElem?_eq_getElem _
theorem keysR_ev (lim : Nat) (H : AHeap) (ks : List Tx) (hk : ks.length ≤ 100000000000) (hs : ∀ s ∈ ks,s.length ≤ 100000000000) : Ev (envN code primsF) 66 lim [.d (sD ks)] H (boolD (namedB ks)) H := by
 refine Fn.ev ?_
 refine Fn_of (pn rfl) rfl (show code 66 = some c66 from rfl) rfl ?_; simp only [List.length_cons,List.length_nil,List.cons_append,List.nil_append,simprocAttr]
 refine w_r trivial ?_
 refine W_lp (fun k st => ∃ i : Nat,i ≤ ks.length ∧ k = ks.length - i ∧ (ks.take i).all vB = true ∧ (ks.take i).Nodup ∧ ∃ x : Nat → AV,st = ⟨[.d (sD ks),x 1,x 2,x 3,x 4,boolD false,intD i,x 7,x 8,x 9],H⟩) ?_ _ _ ⟨0,Nat.zero_le _,rfl,rfl,List.nodup_nil,ex_st _ _ _ rfl⟩
 rintro k _ ⟨i,hi,rfl,ha,hnd,x,rfl⟩
 by_cases t0 : i < ks.length
 ·have f1 : ((i : Int) < (ks.length : Int)) = True := eq_true (by omega)
  have w1 : IntKind.i64.wrap ((i : Int) + 1) = ((i + 1 : Nat) : Int) := wsucc (by omega)
  obtain ⟨s,hsx⟩ : ∃ s,ks[i]? = some s := ⟨_,List.getElem?_eq_getElem t0⟩
  have hc : ∀ s : Tx,(D.str s).cells = [D.str s] := fun _ => rfl
  have hst := all_cut hsx vB
  rw [ha,Bool.true_and] at hst
  obtain ⟨_,H',he,⟨r,rfl,hr⟩,e'⟩ := fn_out (bad_ev H.length H s (hs s (List.mem_of_getElem? hsx)))
  rw [e'] at he
  by_cases h0 : r < 0
  ·have f2 : (r ≥ 0) = False := eq_false (by omega)
   rw [decide_eq_true h0] at hr
   rw [← hr] at hst
   refine w_r (j_ f1 (@List.length_map.{0,0})) ?_
   refine W_region ?_; apply WO_take 2; (focus (intro _; simp only [zz,simprocAttr,hsx,hc]; (first | done | with_reducible exact rfl))); simp only [List.drop_succ_cons,List.drop_zero]; refine WO_call ?_; simp only [zz,simprocAttr]; refine Ev.fn he ?_
   (apply WO_end; (focus (intro _; simp only [zz,simprocAttr,b_geq,f2]; (first | done | with_reducible exact rfl)))) <;> (try simp only [zp,simprocAttr])
   refine w_r trivial ?_
   refine W_lp (fun k st => ∃ j : Nat,j ≤ i ∧ k = i - j ∧ (∀ q,q < j → ks[q]? ≠ some s) ∧ ∃ x : Nat → AV,st = ⟨[.d (sD ks),x 1,x 2,x 3,x 4,boolD false,intD i,intD j,x 8,x 9],H⟩) ?_ _ _ ⟨0,Nat.zero_le _,rfl,fun q hq => by omega,ex_st _ _ _ rfl⟩
   rintro k _ ⟨j,hj,rfl,hno,x,rfl⟩
   by_cases t1 : j < i
   ·have f3 : ((j : Int) < (i : Int)) = True := eq_true (by omega)
    have w2 : IntKind.i64.wrap ((j : Int) + 1) = ((j + 1 : Nat) : Int) := wsucc (by omega)
    obtain ⟨t,htx⟩ : ∃ t,ks[j]? = some t := ⟨_,List.getElem?_eq_getElem (by omega)⟩
    by_cases h1 : s = t
    ·subst h1
     rw [nodup_no hsx htx t1]
     have f4 : (s == s) = true := by simp
     refine w_r (j_ f3 (j_ hsx (j_ htx (j_ hc (j_ f4 (@List.length_map.{0,0})))))) ?_
     exact ans_cut rfl rfl ⟨rfl,rfl⟩
    ·have f4 : (s == t) = false := by simpa using h1
     refine w_r (j_ f3 (j_ hsx (j_ htx (j_ hc (j_ f4 (j_ w2 (@List.length_map.{0,0}))))))) ?_
     refine ⟨i - (j + 1),by omega,j + 1,t1,rfl,fun q hq => ?_,ex_st _ _ _ rfl⟩
     by_cases hqj : q < j
     ·exact hno q hqj
     ·obtain rfl : q = j := by omega
      rw [htx]; exact fun e => h1 (Option.some.inj e).symm
   ·obtain rfl : j = i := by omega
    have f3 : ((j : Int) < (j : Int)) = False := eq_false (by omega)
    refine w_r (j_ f3 w1) ?_
    exact ⟨ks.length - (j + 1),by omega,j + 1,t0,rfl,hst,nodup_step hsx hnd (mem_take_of hno),ex_st _ _ _ rfl⟩
  ·have f2 : (r ≥ 0) = True := eq_true (by omega)
   rw [decide_eq_false h0] at hr
   have : namedB ks = false := by unfold namedB; rw [all_no hsx hr.symm]; rfl
   rw [this]
   refine w_r (j_ f1 (@List.length_map.{0,0})) ?_
   refine W_region ?_; apply WO_take 2; (focus (intro _; simp only [zz,simprocAttr,hsx,hc]; (first | done | with_reducible exact rfl))); simp only [List.drop_succ_cons,List.drop_zero]; refine WO_call ?_; simp only [zz,simprocAttr]; refine Ev.fn he ?_
   (apply WO_end; (focus (intro _; simp only [zz,simprocAttr,b_geq,f2]; (first | done | with_reducible exact rfl)))) <;> (try simp only [zp,simprocAttr])
   refine w_r trivial ?_
   exact ans_cut rfl rfl ⟨rfl,rfl⟩
 ·obtain rfl : i = ks.length := by omega
  have f1 : ((ks.length : Int) < (ks.length : Int)) = False := eq_false (by omega)
  rw [List.take_length] at ha hnd
  have : namedB ks = true := by unfold namedB; rw [ha,decide_eq_true hnd]; rfl
  rw [this]
  refine w_r (j_ f1 (@List.length_map.{0,0})) ?_
  exact ans_cut rfl rfl ⟨rfl,rfl⟩
def Sh (j : J) : Prop := j.t.length ≤ 100000000000 ∧ j.ks.length ≤ 100000000000 ∧ j.l.length ≤ 100000000000 ∧ ∀ s ∈ j.ks,s.length ≤ 100000000000
theorem eq0 (n m : Int) : (n == m) = decide (n = m) := rfl
theorem eqT (s t : Tx) : (s == t) = decide (s = t) := by
 rw [Bool.eq_iff_iff]; simp
theorem sh_of {j : J} (h : wt j ≤ 100000000000) : Sh j := ⟨by have := wt_t j; omega,by have := wt_ks j; omega,by have := wt_l j; omega,fun s hs => by have := wt_key hs; omega⟩
set_option maxHeartbeats 1000000 in
--
theorem shapeR_ev (lim : Nat) (H : AHeap) (j : J) (hj : Sh j) : Ev (envN code primsF) 48 lim [.d j.d] H (boolD (shapedB j)) H := by
 refine Fn.ev ?_
 refine Fn_of (pn rfl) rfl (show code 48 = some c48 from rfl) rfl ?_; simp only [List.length_cons,List.length_nil,List.cons_append,List.nil_append,simprocAttr]
 obtain ⟨s1,s2,s3,s4⟩ := hj
 obtain ⟨K,hK⟩ : ∃ K,H ++ [AObj.cells (jC j)] = K := ⟨_,rfl⟩
 have gK : K[H.length]? = some (.cells (jC j)) := by rw [← hK]; exact get_last _ _
 have hjd := jd j
 have w0 : IntKind.i64.wrap ((j.ks.length : Int) + (j.l.length : Int)) = ((j.ks.length + j.l.length : Nat) : Int) := by rw [w64 (by omega) (by omega)]; omega
 have eE : (((j.ks.length + j.l.length : Nat) : Int) == 0) = emptyB j := by rw [eq0]; exact decide_eq_decide.2 (by omega)
 have eN := eq0 j.n 0
 have eN1 := eq0 j.n 1
 have eT := eqT j.t []
 have hr : shapedB j = if j.k = 0 then emptyB j && decide (j.n = 0) && decide (j.t = [])
  else if j.k = 1 then emptyB j && decide (j.t = []) && (decide (j.n = 0) || decide (j.n = 1))
  else if j.k = 2 then emptyB j && decide (j.t = []) && decide (-9007199254740991 ≤ j.n) && decide (j.n ≤ 9007199254740991)
  else if j.k = 3 then emptyB j && decide (j.n = 0) && vB j.t
  else if j.k = 4 then decide (j.ks.length = 0) && decide (j.n = 0) && decide (j.t = [])
  else if j.k = 5 then decide (j.ks.length = j.l.length) && decide (j.n = 0) && decide (j.t = []) && namedB j.ks
  else false := rfl
 rw [hr]
 (iterate 2 refine w_s (j_ hjd hK) ?_)
 (iterate 4 refine w_s (j_ gK (j_ w0 (j_ eE (@List.length_map.{0,0})))) ?_)
 have k0e := eq0 j.k 0
 have k1e := eq0 j.k 1
 have k2e := eq0 j.k 2
 have k3e := eq0 j.k 3
 have k4e := eq0 j.k 4
 have k5e := eq0 j.k 5
 by_cases k0 : j.k = 0
 ·rw [if_pos k0]
  rw [decide_eq_true k0] at k0e
  generalize emptyB j = b1 at *
  generalize decide (j.n = 0) = b2 at *
  generalize decide (j.t = []) = b3 at *
  cases b1 <;> cases b2 <;> cases b3 <;> (refine w_r (j_ gK (j_ k0e (j_ eN eT))) ?_; exact ans_cut rfl rfl ⟨rfl,rfl⟩)
 rw [if_neg k0]
 rw [decide_eq_false k0] at k0e
 by_cases k1 : j.k = 1
 ·rw [if_pos k1]
  rw [decide_eq_true k1] at k1e
  generalize emptyB j = b1 at *
  generalize decide (j.n = 0) = b2 at *
  generalize decide (j.n = 1) = b4 at *
  generalize decide (j.t = []) = b3 at *
  cases b1 <;> cases b2 <;> cases b3 <;> cases b4 <;> (refine w_r (j_ gK (j_ k0e (j_ k1e (j_ eN (j_ eN1 eT))))) ?_; exact ans_cut rfl rfl ⟨rfl,rfl⟩)
 rw [if_neg k1]
 rw [decide_eq_false k1] at k1e
 by_cases k2 : j.k = 2
 ·rw [if_pos k2]
  rw [decide_eq_true k2] at k2e
  generalize emptyB j = b1 at *
  generalize decide (j.t = []) = b3 at *
  by_cases h2 : -9007199254740991 ≤ j.n
  ·have f2 : (j.n ≥ -9007199254740991) = True := eq_true h2
   rw [decide_eq_true h2]
   by_cases h4 : j.n ≤ 9007199254740991
   ·have f4 : (j.n ≤ 9007199254740991) = True := eq_true h4
    rw [decide_eq_true h4]
    cases b1 <;> cases b3 <;> (refine w_r (j_ gK (j_ k0e (j_ k1e (j_ k2e (j_ f2 (j_ f4 eT)))))) ?_; exact ans_cut rfl rfl ⟨rfl,rfl⟩)
   ·have f4 : (j.n ≤ 9007199254740991) = False := eq_false h4
    rw [decide_eq_false h4]
    cases b1 <;> cases b3 <;> (refine w_r (j_ gK (j_ k0e (j_ k1e (j_ k2e (j_ f2 (j_ f4 eT)))))) ?_; exact ans_cut rfl rfl ⟨rfl,rfl⟩)
  ·have f2 : (j.n ≥ -9007199254740991) = False := eq_false h2
   rw [decide_eq_false h2]
   generalize decide (j.n ≤ 9007199254740991) = b4
   cases b1 <;> cases b3 <;> cases b4 <;> (refine w_r (j_ gK (j_ k0e (j_ k1e (j_ k2e (j_ f2 eT))))) ?_; exact ans_cut rfl rfl ⟨rfl,rfl⟩)
 rw [if_neg k2]
 rw [decide_eq_false k2] at k2e
 by_cases k3 : j.k = 3
 ·rw [if_pos k3]
  rw [decide_eq_true k3] at k3e
  obtain ⟨_,K',he,⟨r,rfl,hrv⟩,e'⟩ := fn_out (bad_ev H.length K j.t s1)
  rw [e'] at he
  generalize emptyB j = b1 at *
  generalize decide (j.n = 0) = b2 at *
  generalize vB j.t = b3 at *
  (iterate 15 refine w_s (j_ gK (j_ k0e (j_ k1e (j_ k2e k3e)))) ?_)
  cases b1 <;> cases b2 <;> cases b3 <;> (refine w_1 he (j_ gK (j_ eN hrv)) ?_; refine w_r trivial ?_; exact ans_cut rfl rfl ⟨rfl,rfl⟩)
 rw [if_neg k3]
 rw [decide_eq_false k3] at k3e
 by_cases k4 : j.k = 4
 ·rw [if_pos k4]
  rw [decide_eq_true k4] at k4e
  have eE4 : ((j.ks.length : Int) == 0) = decide (j.ks.length = 0) := by rw [eq0]; exact decide_eq_decide.2 (by omega)
  generalize decide (j.ks.length = 0) = b1 at *
  generalize decide (j.n = 0) = b2 at *
  generalize decide (j.t = []) = b3 at *
  cases b1 <;> cases b2 <;> cases b3 <;> (refine w_r (j_ gK (j_ k0e (j_ k1e (j_ k2e (j_ k3e (j_ k4e (j_ eN (j_ eT (j_ eE4 (@List.length_map.{0,0})))))))))) ?_; exact ans_cut rfl rfl ⟨rfl,rfl⟩)
 rw [if_neg k4]
 rw [decide_eq_false k4] at k4e
 by_cases k5 : j.k = 5
 ·rw [if_pos k5]
  rw [decide_eq_true k5] at k5e
  have he := keysR_ev H.length K j.ks s2 s4
  have eE5 : ((j.ks.length : Int) == (j.l.length : Int)) = decide (j.ks.length = j.l.length) := by rw [eq0]; exact decide_eq_decide.2 (by omega)
  generalize decide (j.ks.length = j.l.length) = b1 at *
  generalize decide (j.n = 0) = b2 at *
  generalize decide (j.t = []) = b3 at *
  generalize namedB j.ks = b4 at *
  (iterate 21 refine w_s (j_ gK (j_ k0e (j_ k1e (j_ k2e (j_ k3e (j_ k4e k5e)))))) ?_)
  cases b1 <;> cases b2 <;> cases b3 <;> cases b4 <;> (refine w_1 he (j_ gK (j_ eN (j_ eT (j_ eE5 (@List.length_map.{0,0}))))) ?_; refine w_r trivial ?_; exact ans_cut rfl rfl ⟨rfl,rfl⟩)
 rw [if_neg k5]
 rw [decide_eq_false k5] at k5e
 refine w_r (j_ gK (j_ k0e (j_ k1e (j_ k2e (j_ k3e (j_ k4e k5e)))))) ?_
 exact ans_cut rfl rfl ⟨rfl,rfl⟩
theorem goodR_ev : ∀ (n : Nat) (lim : Nat) (H : AHeap) (j : J),n ≤ 1000 → wt j ≤ 100000000000 → Ev (envN code primsF) 29 lim [.d j.d,intD n] H (boolD (goodB n j)) H
 | 0,lim,H,j,_,_ => by
  refine Fn.ev ?_
  refine Fn_of (pn rfl) rfl (show code 29 = some c29 from rfl) rfl ?_; simp only [List.length_cons,List.length_nil,List.cons_append,List.nil_append,simprocAttr]
  have hjd := jd j
  have f0 : (((0 : Nat) : Int) < 1) = True := eq_true (by omega)
  refine w_r (j_ hjd f0) ?_
  exact ans_cut rfl rfl ⟨rfl,rfl⟩
 | n + 1,lim,H,j,hn,hj => by
  refine Fn.ev ?_
  refine Fn_of (pn rfl) rfl (show code 29 = some c29 from rfl) rfl ?_; simp only [List.length_cons,List.length_nil,List.cons_append,List.nil_append,simprocAttr]
  have hjd := jd j
  obtain ⟨K,hK⟩ : ∃ K,H ++ [AObj.cells (jC j)] = K := ⟨_,rfl⟩
  have gK : K[H.length]? = some (.cells (jC j)) := by rw [← hK]; exact get_last _ _
  have f0 : (((n + 1 : Nat) : Int) < 1) = False := eq_false (by omega)
  have he := shapeR_ev H.length K j (sh_of hj)
  simp only [hjd] at he
  have hr : goodB (n + 1) j = (shapedB j && j.l.all (goodB n)) := rfl
  have hl3 := (sh_of hj).2.2.1
  (iterate 2 refine w_s (j_ hjd hK) ?_)
  cases hs : shapedB j with
  | false =>
   rw [hs] at he hr
   rw [hr,Bool.false_and]
   (iterate 1 refine w_s trivial ?_)
   refine w_1 he (j_ gK f0) ?_
   refine w_r trivial ?_
   exact ans_cut rfl rfl ⟨rfl,rfl⟩
  | true =>
   rw [hs] at he hr
   rw [hr,Bool.true_and]
   (iterate 1 refine w_s trivial ?_)
   refine w_1 he (j_ gK f0) ?_
   refine w_r trivial ?_
   refine W_lp (fun k st => ∃ i : Nat,i ≤ j.l.length ∧ k = j.l.length - i ∧ (j.l.take i).all (goodB n) = true ∧ ∃ x : Nat → AV,st = ⟨[x 0,intD (n + 1 : Nat),x 2,x 3,x 4,boolD false,.ptr H.length 0,intD i,x 8,x 9],K⟩) ?_ _ _ ⟨0,Nat.zero_le _,rfl,rfl,ex_st _ _ _ rfl⟩
   rintro k _ ⟨i,hi,rfl,ha,x,rfl⟩
   by_cases t0 : i < j.l.length
   ·have f1 : ((i : Int) < (j.l.length : Int)) = True := eq_true (by omega)
    have w1 : IntKind.i64.wrap ((i : Int) + 1) = ((i + 1 : Nat) : Int) := wsucc (by omega)
    have w2 : IntKind.i64.wrap (((n + 1 : Nat) : Int) - 1) = (n : Int) := by rw [w64 (by omega) (by omega)]; omega
    obtain ⟨y,hy⟩ : ∃ y,j.l[i]? = some y := ⟨_,List.getElem?_eq_getElem t0⟩
    have hyd := jd y
    have hst := all_cut hy (goodB n)
    rw [ha,Bool.true_and] at hst
    have hd' : wt y ≤ 100000000000 := by have := wt_mem (List.mem_of_getElem? hy); omega
    have hg := goodR_ev n H.length K y (by omega) hd'
    simp only [hyd] at hg
    cases hv : goodB n y with
    | true =>
     rw [hv] at hg hst
     refine w_r (j_ gK (j_ f1 (@List.length_map.{0,0}))) ?_
     refine W_region ?_; apply WO_take 5; (focus (intro _; simp only [zz,simprocAttr,gK,hy,hyd,b_sub,w2]; (first | done | with_reducible exact rfl))); simp only [List.drop_succ_cons,List.drop_zero]; refine WO_call ?_; simp only [zz,simprocAttr]; refine Ev.fn hg ?_
     (apply WO_end; (focus (intro _; simp only [zz,simprocAttr]; (first | done | with_reducible exact rfl)))) <;> (try simp only [zp,simprocAttr])
     refine w_r w1 ?_
     exact ⟨j.l.length - (i + 1),by omega,i + 1,t0,rfl,hst,ex_st _ _ _ rfl⟩
    | false =>
     rw [hv] at hg
     rw [all_no hy hv]
     refine w_r (j_ gK (j_ f1 (@List.length_map.{0,0}))) ?_
     refine W_region ?_; apply WO_take 5; (focus (intro _; simp only [zz,simprocAttr,gK,hy,hyd,b_sub,w2]; (first | done | with_reducible exact rfl))); simp only [List.drop_succ_cons,List.drop_zero]; refine WO_call ?_; simp only [zz,simprocAttr]; refine Ev.fn hg ?_
     (apply WO_end; (focus (intro _; simp only [zz,simprocAttr]; (first | done | with_reducible exact rfl)))) <;> (try simp only [zp,simprocAttr])
     refine w_r trivial ?_
     exact ans_cut rfl rfl ⟨rfl,rfl⟩
   ·obtain rfl : i = j.l.length := by omega
    have f1 : ((j.l.length : Int) < (j.l.length : Int)) = False := eq_false (by omega)
    rw [List.take_length] at ha
    rw [ha]
    refine w_r (j_ gK (j_ f1 (@List.length_map.{0,0}))) ?_
    exact ans_cut rfl rfl ⟨rfl,rfl⟩
theorem GoodR_ev (lim : Nat) (H : AHeap) (j : J) (hj : wt j ≤ 100000000000) : Ev (envN code primsF) 13 lim [.d j.d] H (boolD (goodB 12 j)) H := by
 refine Fn.ev ?_
 refine Fn_of (pn rfl) rfl (show code 13 = some c13 from rfl) rfl ?_; simp only [List.length_cons,List.length_nil,List.cons_append,List.nil_append,simprocAttr]
 have hjd := jd j
 obtain ⟨K,hK⟩ : ∃ K,H ++ [AObj.cells (jC j)] = K := ⟨_,rfl⟩
 have gK : K[H.length]? = some (.cells (jC j)) := by rw [← hK]; exact get_last _ _
 have he : Ev (envN code primsF) 29 H.length [.d j.d,intD 12] K (boolD (goodB 12 j)) K := goodR_ev 12 H.length K j (by omega) hj
 simp only [hjd] at he
 (iterate 2 refine w_s (j_ hjd hK) ?_)
 (iterate 1 refine w_s trivial ?_)
 refine w_1 he gK ?_
 refine w_r trivial ?_
 exact ans_cut rfl rfl ⟨rfl,rfl⟩
end Go.Proofs.YtmhmjlfajlpabaaDoor
namespace Go.Proofs.YtmhmjlfajlpabaaDoor
open Go Go.Abs
def bigB (j : J) (n : Int) : Bool := decide (n < 1) || decide (2000 < j.t.length) || decide (200 < j.ks.length) || decide (2000 < j.l.length)
def leftI : Nat → J → Int → Int
 | 0,_,_ => -1
 | d + 1,j,n => if bigB j n = true then -1 else if (j.ks.all fun s => decide (s.length ≤ 2000)) = false then -1 else j.l.foldl (fun n k => if n < 0 then n else leftI d k n) (n - 1)
theorem fold_neg {f : J → Int → Int} : ∀ (l : List J) (n : Int),n < 0 → l.foldl (fun n k => if n < 0 then n else f k n) n = n
 | [],_,_ => rfl
 | a :: l,n,h => by rw [List.foldl_cons,if_pos h]; exact fold_neg l n h
theorem left_step (d : Nat) (l : List J) (i : Nat) (x : J) (h : l[i]? = some x) (n : Int) :
  (l.take (i + 1)).foldl (fun n k => if n < 0 then n else leftI d k n) n = (if (l.take i).foldl (fun n k => if n < 0 then n else leftI d k n) n < 0 then (l.take i).foldl (fun n k => if n < 0 then n else leftI d k n) n else leftI d x ((l.take i).foldl (fun n k => if n < 0 then n else leftI d k n) n)) := by
 rw [List.take_add_one,h,List.foldl_append]; rfl
theorem fold_cut (d : Nat) (l : List J) (i : Nat) (n : Int) (h : (l.take i).foldl (fun n k => if n < 0 then n else leftI d k n) n < 0) : l.foldl (fun n k => if n < 0 then n else leftI d k n) n = (l.take i).foldl (fun n k => if n < 0 then n else leftI d k n) n := by
 conv => lhs; rw [← List.take_append_drop i l]
 rw [List.foldl_append,fold_neg _ _ h]
theorem left_small : ∀ (d : Nat) (j : J) (n : Int),n ≤ 2000 → -1 ≤ n → -1 ≤ leftI d j n ∧ leftI d j n ≤ 2000
 | 0,_,_,_,_ => by unfold leftI; omega
 | d + 1,j,n,h1,h2 => by
  unfold leftI
  split
  ·omega
  split
  ·omega
  ·rename_i hb _
   have hn : 1 ≤ n := by
    simp only [bigB,Bool.or_eq_true,decide_eq_true_eq,not_or] at hb; omega
   have : ∀ (l : List J) (n : Int),n ≤ 2000 → -1 ≤ n → -1 ≤ l.foldl (fun n k => if n < 0 then n else leftI d k n) n ∧ l.foldl (fun n k => if n < 0 then n else leftI d k n) n ≤ 2000 := by
    intro l
    induction l with
    | nil => intro n a b; exact ⟨b,a⟩
    | cons x l ih =>
     intro n a b
     rw [List.foldl_cons]
     split
     ·exact ih _ a b
     ·exact ih _ (left_small d x n a b).2 (left_small d x n a b).1
   exact this _ _ (by omega) (by omega)
theorem keys_wt : ∀ ks : List Tx,(ks.all fun s => decide (s.length ≤ 2000)) = true → (ks.map fun k => k.length + 1).sum ≤ 2001 * ks.length
 | [],_ => Nat.zero_le _
 | k :: ks,h => by
  simp only [List.all_cons,Bool.and_eq_true,decide_eq_true_eq] at h
  have := keys_wt ks h.2
  simp only [List.map_cons,List.sum_cons,List.length_cons]
  omega
theorem left_wt : ∀ (d : Nat) (j : J) (n : Int),0 ≤ leftI d j n → (wt j : Int) + 500000 * leftI d j n ≤ 500000 * n
 | 0,_,_,h => by unfold leftI at h; omega
 | d + 1,j,n,h => by
  have hu : leftI (d + 1) j n = if bigB j n = true then -1 else if (j.ks.all fun s => decide (s.length ≤ 2000)) = false then -1 else j.l.foldl (fun n k => if n < 0 then n else leftI d k n) (n - 1) := by
   conv => lhs; unfold leftI
  rw [hu] at h ⊢
  split at h
  ·omega
  split at h
  ·omega
  ·rename_i hb hk
   rw [if_neg hb,if_neg hk]
   simp only [bigB,Bool.or_eq_true,decide_eq_true_eq,not_or,Int.not_lt,Nat.not_lt] at hb
   have hk2 := keys_wt j.ks (by simpa using hk)
   have key : ∀ (l : List J) (n : Int),0 ≤ l.foldl (fun n k => if n < 0 then n else leftI d k n) n → (wts l : Int) + 500000 * l.foldl (fun n k => if n < 0 then n else leftI d k n) n ≤ 500000 * n := by
    intro l
    induction l with
    | nil => intro n a; simp [wts]
    | cons x l ih =>
     intro n a
     rw [List.foldl_cons] at a ⊢
     by_cases hn : n < 0
     ·rw [if_pos hn,fold_neg l n hn] at a; omega
     ·rw [if_neg hn] at a ⊢
      have h2 := ih _ a
      have hx : 0 ≤ leftI d x n := by
       by_cases hx : leftI d x n < 0
       ·rw [fold_neg l _ hx] at a; omega
       ·omega
      have h1 := left_wt d x n hx
      rw [wts_cons]
      omega
   have := key j.l (n - 1) h
   rw [wt_eq]
   omega
theorem few_wt {j : J} (h : 0 ≤ leftI 30 j 2000) : wt j ≤ 1000000000 := by
 have := left_wt 30 j 2000 h
 omega
end Go.Proofs.YtmhmjlfajlpabaaDoor
namespace Go.Proofs.YtmhmjlfajlpabaaDoor
open Go Go.Abs Go.Lib
theorem left_ev : ∀ (d : Nat) (lim : Nat) (H : AHeap) (j : J) (n : Int),d ≤ 1000 → -1 ≤ n → n ≤ 2000 → Ev (envN code primsF) 31 lim [.d j.d,.d (.int .i64 n),intD d] H (.d (.int .i64 (leftI d j n))) H
 | 0,lim,H,j,n,_,_,_ => by
  refine Fn.ev ?_
  refine Fn_of (pn rfl) rfl (show code 31 = some c31 from rfl) rfl ?_; simp only [List.length_cons,List.length_nil,List.cons_append,List.nil_append,simprocAttr]
  have hjd := jd j
  have hr : leftI 0 j n = -1 := by unfold leftI; rfl
  have f0 : (((0 : Nat) : Int) < 1) = True := eq_true (by omega)
  rw [hr]
  by_cases h1 : n < 1
  ·have f1 : (n < 1) = True := eq_true h1
   refine w_r (j_ hjd (j_ f0 f1)) ?_
   exact ans_cut rfl rfl ⟨rfl,rfl⟩
  ·have f1 : (n < 1) = False := eq_false h1
   refine w_r (j_ hjd (j_ f0 f1)) ?_
   exact ans_cut rfl rfl ⟨rfl,rfl⟩
 | d + 1,lim,H,j,n,hd,hn1,hn2 => by
  refine Fn.ev ?_
  refine Fn_of (pn rfl) rfl (show code 31 = some c31 from rfl) rfl ?_; simp only [List.length_cons,List.length_nil,List.cons_append,List.nil_append,simprocAttr]
  have hjd := jd j
  obtain ⟨K,hK⟩ : ∃ K,H ++ [AObj.cells (jC j)] = K := ⟨_,rfl⟩
  have gK : K[H.length]? = some (.cells (jC j)) := by rw [← hK]; exact get_last _ _
  have f0 : (((d + 1 : Nat) : Int) < 1) = False := eq_false (by omega)
  have hr : leftI (d + 1) j n = if bigB j n = true then -1 else if (j.ks.all fun s => decide (s.length ≤ 2000)) = false then -1 else j.l.foldl (fun n k => if n < 0 then n else leftI d k n) (n - 1) := by
   conv => lhs; unfold leftI
  rw [hr]
  (iterate 2 refine w_s (j_ hjd hK) ?_)
  by_cases h1 : n < 1
  ·have f1 : (n < 1) = True := eq_true h1
   rw [if_pos (by simp [bigB,h1])]
   refine w_r (j_ gK (j_ f0 f1)) ?_
   exact ans_cut rfl rfl ⟨rfl,rfl⟩
  have f1 : (n < 1) = False := eq_false h1
  by_cases h2 : 2000 < j.t.length
  ·have f2 : ((j.t.length : Int) > 2000) = True := eq_true (by omega)
   rw [if_pos (by simp [bigB,h2])]
   refine w_r (j_ gK (j_ f0 (j_ f1 f2))) ?_
   exact ans_cut rfl rfl ⟨rfl,rfl⟩
  have f2 : ((j.t.length : Int) > 2000) = False := eq_false (by omega)
  by_cases h3 : 200 < j.ks.length
  ·have f3 : ((j.ks.length : Int) > 200) = True := eq_true (by omega)
   rw [if_pos (by simp [bigB,h3])]
   refine w_r (j_ gK (j_ f0 (j_ f1 (j_ f2 (j_ f3 (@List.length_map.{0,0})))))) ?_
   exact ans_cut rfl rfl ⟨rfl,rfl⟩
  have f3 : ((j.ks.length : Int) > 200) = False := eq_false (by omega)
  by_cases h4 : 2000 < j.l.length
  ·have f4 : ((j.l.length : Int) > 2000) = True := eq_true (by omega)
   rw [if_pos (by simp [bigB,h4])]
   refine w_r (j_ gK (j_ f0 (j_ f1 (j_ f2 (j_ f3 (j_ f4 (@List.length_map.{0,0}))))))) ?_
   exact ans_cut rfl rfl ⟨rfl,rfl⟩
  have f4 : ((j.l.length : Int) > 2000) = False := eq_false (by omega)
  have w0 : IntKind.i64.wrap (n - 1) = n - 1 := w64 (by omega) (by omega)
  have hb : ¬ bigB j n = true := by simp only [bigB,Bool.or_eq_true,decide_eq_true_eq]; omega
  rw [if_neg hb]
  refine w_r (j_ gK (j_ f0 (j_ f1 (j_ f2 (j_ f3 (j_ f4 (j_ w0 (@List.length_map.{0,0})))))))) ?_
  refine W_lp (fun k st => ∃ i : Nat,i ≤ j.ks.length ∧ k = j.ks.length - i ∧ ((j.ks.take i).all fun s => decide (s.length ≤ 2000)) = true ∧ ∃ x : Nat → AV,st = ⟨[x 0,.d (.int .i64 (n - 1)),intD (d + 1 : Nat),x 3,x 4,x 5,x 6,intD 0,.ptr H.length 0,intD i,x 10,x 11,x 12,x 13],K⟩) ?_ _ _ ⟨0,Nat.zero_le _,rfl,rfl,ex_st _ _ _ rfl⟩
  rintro k _ ⟨i,hi,rfl,ha,x,rfl⟩
  by_cases t0 : i < j.ks.length
  ·have f5 : ((i : Int) < (j.ks.length : Int)) = True := eq_true (by omega)
   have w1 : IntKind.i64.wrap ((i : Int) + 1) = ((i + 1 : Nat) : Int) := wsucc (by omega)
   obtain ⟨s,hs⟩ : ∃ s,j.ks[i]? = some s := ⟨_,List.getElem?_eq_getElem t0⟩
   have hc : (D.str s).cells = [D.str s] := rfl
   have hst := all_cut hs fun s => decide (s.length ≤ 2000)
   rw [ha,Bool.true_and] at hst
   by_cases h5 : s.length ≤ 2000
   ·have f6 : ((s.length : Int) > 2000) = False := eq_false (by omega)
    rw [decide_eq_true h5] at hst
    refine w_r (j_ gK (j_ f5 (j_ f6 (j_ hs (j_ hc (j_ w1 (@List.length_map.{0,0}))))))) ?_
    exact ⟨j.ks.length - (i + 1),by omega,i + 1,t0,rfl,hst,ex_st _ _ _ rfl⟩
   ·have f6 : ((s.length : Int) > 2000) = True := eq_true (by omega)
    rw [if_pos (all_no hs (by simpa using h5))]
    refine w_r (j_ gK (j_ f5 (j_ f6 (j_ hs (j_ hc (@List.length_map.{0,0})))))) ?_
    exact ans_cut rfl rfl ⟨rfl,rfl⟩
  ·obtain rfl : i = j.ks.length := by omega
   have f5 : ((j.ks.length : Int) < (j.ks.length : Int)) = False := eq_false (by omega)
   rw [List.take_length] at ha
   rw [if_neg (by rw [ha]; simp)]
   refine w_r (j_ gK (j_ f5 (@List.length_map.{0,0}))) ?_
   refine W_lp (fun k st => ∃ (i : Nat) (m : Int),i ≤ j.l.length ∧ k = j.l.length - i ∧ (j.l.take i).foldl (fun n k => if n < 0 then n else leftI d k n) (n - 1) = m ∧ -1 ≤ m ∧ m ≤ 2000 ∧ ∃ x : Nat → AV,st = ⟨[x 0,.d (.int .i64 m),intD (d + 1 : Nat),x 3,x 4,x 5,x 6,intD 0,.ptr H.length 0,x 9,intD i,x 11,x 12,x 13],K⟩) ?_ _ _ ⟨0,n - 1,Nat.zero_le _,rfl,rfl,by omega,by omega,ex_st _ _ _ rfl⟩
   rintro k _ ⟨i,m,hi,rfl,hm,m1,m2,x,rfl⟩
   by_cases t0 : i < j.l.length
   ·have f5 : ((i : Int) < (j.l.length : Int)) = True := eq_true (by omega)
    have w1 : IntKind.i64.wrap ((i : Int) + 1) = ((i + 1 : Nat) : Int) := wsucc (by omega)
    by_cases h5 : m < 0
    ·have f6 : (m ≥ 0) = False := eq_false (by omega)
     rw [fold_cut d j.l i (n - 1) (by rw [hm]; exact h5),hm]
     refine w_r (j_ gK (j_ f5 (j_ f6 (@List.length_map.{0,0})))) ?_
     exact ans_cut rfl rfl ⟨rfl,rfl⟩
    ·have f6 : (m ≥ 0) = True := eq_true (by omega)
     obtain ⟨y,hy⟩ : ∃ y,j.l[i]? = some y := ⟨_,List.getElem?_eq_getElem t0⟩
     have hyd := jd y
     have hst := left_step d j.l i y hy (n - 1)
     rw [hm,if_neg h5] at hst
     have w2 : IntKind.i64.wrap (((d + 1 : Nat) : Int) - 1) = (d : Int) := by rw [w64 (by omega) (by omega)]; omega
     have hg := left_ev d H.length K y m (by omega) m1 m2
     simp only [hyd] at hg
     obtain ⟨r1,r2⟩ := left_small d y m m2 m1
     refine w_r (j_ gK (j_ f5 (j_ f6 (@List.length_map.{0,0})))) ?_
     refine W_region ?_; apply WO_take 6; (focus (intro _; simp only [zz,simprocAttr,gK,hy,hyd,b_sub,w2]; (first | done | with_reducible exact rfl))); simp only [List.drop_succ_cons,List.drop_zero]; refine WO_call ?_; simp only [zz,simprocAttr]; refine Ev.fn hg ?_
     (apply WO_end; (focus (intro _; simp only [zz,simprocAttr]; (first | done | with_reducible exact rfl)))) <;> (try simp only [zp,simprocAttr])
     refine w_r w1 ?_
     exact ⟨j.l.length - (i + 1),by omega,i + 1,_,t0,rfl,hst,r1,r2,ex_st _ _ _ rfl⟩
   ·obtain rfl : i = j.l.length := by omega
    have f5 : ((j.l.length : Int) < (j.l.length : Int)) = False := eq_false (by omega)
    rw [List.take_length] at hm
    rw [hm]
    refine w_r (j_ gK (j_ f5 (@List.length_map.{0,0}))) ?_
    exact ans_cut rfl rfl ⟨rfl,rfl⟩
theorem small_ev (lim : Nat) (H : AHeap) (j : J) : Ev (envN code primsF) 16 lim [.d j.d] H (boolD (decide (0 ≤ leftI 30 j 2000))) H := by
 refine Fn.ev ?_
 refine Fn_of (pn rfl) rfl (show code 16 = some c16 from rfl) rfl ?_; simp only [List.length_cons,List.length_nil,List.cons_append,List.nil_append,simprocAttr]
 have hjd := jd j
 obtain ⟨K,hK⟩ : ∃ K,H ++ [AObj.cells (jC j)] = K := ⟨_,rfl⟩
 have gK : K[H.length]? = some (.cells (jC j)) := by rw [← hK]; exact get_last _ _
 have he : Ev (envN code primsF) 31 H.length [.d j.d,intD 2000,intD 30] K (.d (.int .i64 (leftI 30 j 2000))) K := left_ev 30 H.length K j 2000 (by omega) (by omega) (by omega)
 simp only [hjd] at he
 have hge : (leftI 30 j 2000 ≥ 0) = (0 ≤ leftI 30 j 2000) := rfl
 generalize leftI 30 j 2000 = m at *
 (iterate 2 refine w_s (j_ hjd hK) ?_)
 (iterate 1 refine w_s trivial ?_)
 by_cases h : 0 ≤ m
 ·have f1 : (m ≥ 0) = True := eq_true h
  rw [decide_eq_true h]
  refine w_1 he (j_ gK f1) ?_
  refine w_r trivial ?_
  exact ans_cut rfl rfl ⟨rfl,rfl⟩
 ·have f1 : (m ≥ 0) = False := eq_false h
  rw [decide_eq_false h]
  refine w_1 he (j_ gK f1) ?_
  refine w_r trivial ?_
  exact ans_cut rfl rfl ⟨rfl,rfl⟩
end Go.Proofs.YtmhmjlfajlpabaaDoor
namespace Go.Proofs.YtmhmjlfajlpabaaDoor
open Go Go.Abs
def hexC (n : Nat) : UInt8 := ([48,49,50,51,52,53,54,55,56,57,97,98,99,100,101,102] : Tx).getD n 0
def escB (c : UInt8) : Tx :=
 if c = 34 ∨ c = 92 then [92,c]
 else if c = 8 then [92,98]
 else if c = 9 then [92,116]
 else if c = 10 then [92,110]
 else if c = 12 then [92,102]
 else if c = 13 then [92,114]
 else if c.toNat < 32 then [92,117,48,48,hexC (c.toNat / 16),hexC (c.toNat % 16)]
 else [c]
def quoteB (s : Tx) : Tx := 34 :: (s.flatMap escB ++ [34])
def commas : List Tx → Tx
 | [] => []
 | [a] => a
 | a :: b :: l => a ++ 44 :: commas (b :: l)
def pairB (k e : Tx) : Tx := quoteB k ++ 58 :: e
mutual
def encJ : J → Tx
 | .mk k n t ks l =>
  if k = 1 then (if n = 1 then [116,114,117,101] else [102,97,108,115,101])
  else if k = 2 then Lib.itoa n
  else if k = 3 then quoteB t
  else if k = 4 then 91 :: (commas (encJs l) ++ [93])
  else if k = 5 then 123 :: (commas (List.zipWith pairB ks (encJs l)) ++ [125])
  else [110,117,108,108]
def encJs : List J → List Tx
 | [] => []
 | a :: l => encJ a :: encJs l
end
theorem encJs_map : ∀ l : List J,encJs l = l.map encJ
 | [] => by unfold encJs; rfl
 | a :: l => by unfold encJs; rw [encJs_map l]; rfl
theorem encJ_eq (j : J) : encJ j = if j.k = 1 then (if j.n = 1 then [116,114,117,101] else [102,97,108,115,101])
  else if j.k = 2 then Lib.itoa j.n
  else if j.k = 3 then quoteB j.t
  else if j.k = 4 then 91 :: (commas (j.l.map encJ) ++ [93])
  else if j.k = 5 then 123 :: (commas (List.zipWith pairB j.ks (j.l.map encJ)) ++ [125])
  else [110,117,108,108] := by
 obtain ⟨k,n,t,ks,l⟩ := j
 conv => lhs; unfold encJ
 rw [encJs_map]; rfl
theorem commas_snoc : ∀ (l : List Tx) (a : Tx),commas (l ++ [a]) = if l = [] then a else commas l ++ 44 :: a
 | [],a => rfl
 | [b],a => rfl
 | b :: c :: l,a => by
  have h := commas_snoc (c :: l) a
  rw [if_neg (by simp)] at h
  rw [if_neg (by simp)]
  show b ++ 44 :: commas ((c :: l) ++ [a]) = (b ++ 44 :: commas (c :: l)) ++ 44 :: a
  rw [h]; simp
def wList (w : Tx → J → Tx) : Bool → Tx → List J → Tx
 | _,b,[] => b
 | first,b,j :: l => wList w false (w (if first then b else b ++ [44]) j) l
def wMap (w : Tx → J → Tx) (ks : List Tx) (l : List J) : Bool → Tx → List Nat → Tx
 | _,b,[] => b
 | first,b,i :: P => wMap w ks l false (w ((if first then b else b ++ [44]) ++ quoteB (ks.getD i []) ++ [58]) (l.getD i J.zero)) P
def writeS : Nat → Tx → J → Tx
 | 0,b,_ => b
 | f + 1,b,j =>
  if 16384 < b.length then b
  else if j.k = 1 then b ++ (if j.n = 1 then [116,114,117,101] else [102,97,108,115,101])
  else if j.k = 2 then b ++ Lib.itoa j.n
  else if j.k = 3 then b ++ quoteB j.t
  else if j.k = 4 then wList (writeS f) true (b ++ [91]) j.l ++ [93]
  else if j.k = 5 then wMap (writeS f) j.ks j.l true (b ++ [123]) (byKeys j.ks) ++ [125]
  else b ++ [110,117,108,108]
theorem wList_snoc (w : Tx → J → Tx) : ∀ (l : List J) (first : Bool) (b : Tx) (j : J),wList w first b (l ++ [j]) = w (if first && l.isEmpty then wList w first b l else wList w first b l ++ [44]) j
 | [],first,b,j => by cases first <;> rfl
 | a :: l,first,b,j => by
  rw [List.cons_append]
  show wList w false (w (if first = true then b else b ++ [44]) a) (l ++ [j]) = _
  rw [wList_snoc w l]
  simp only [Bool.false_and,List.isEmpty_cons,Bool.and_false]
  rfl
theorem wMap_snoc (w : Tx → J → Tx) (ks : List Tx) (l : List J) : ∀ (P : List Nat) (first : Bool) (b : Tx) (i : Nat),wMap w ks l first b (P ++ [i]) = w ((if first && P.isEmpty then wMap w ks l first b P else wMap w ks l first b P ++ [44]) ++ quoteB (ks.getD i []) ++ [58]) (l.getD i J.zero)
 | [],first,b,j => by cases first <;> rfl
 | a :: P,first,b,j => by
  rw [List.cons_append]
  show wMap w ks l false _ (P ++ [j]) = _
  rw [wMap_snoc w ks l P]
  simp only [Bool.false_and,List.isEmpty_cons,Bool.and_false]
  rfl
theorem escB_len (c : UInt8) : (escB c).length ≤ 6 := by
 unfold escB; (repeat' split) <;> simp
theorem flat_len : ∀ s : Tx,(s.flatMap escB).length ≤ 6 * s.length
 | [] => by simp
 | c :: s => by
  have := flat_len s
  have := escB_len c
  rw [List.flatMap_cons,List.length_append,List.length_cons]; omega
theorem quoteB_len (s : Tx) : (quoteB s).length ≤ 2 + 6 * s.length := by
 have := flat_len s
 unfold quoteB
 simp only [List.length_cons,List.length_append,List.length_nil]
 omega
theorem nDigits_le : ∀ (k u : Nat),u < 10 ^ (k + 1) → Lib.nDigits u ≤ k + 1
 | 0,u,h => by rw [Lib.nDigits_small (by simpa using h)]; exact Nat.le_refl _
 | k + 1,u,h => by
  by_cases h1 : u < 10
  ·rw [Lib.nDigits_small h1]; omega
  ·rw [Lib.nDigits_big h1]
   have := nDigits_le k (u / 10) (by rw [Nat.pow_succ] at h; omega)
   omega
theorem itoa_len {n : Int} (h1 : -9007199254740991 ≤ n) (h2 : n ≤ 9007199254740991) : (Lib.itoa n).length ≤ 20 := by
 unfold Lib.itoa
 split
 ·rw [List.length_cons,Lib.decDigits_length]
  have := nDigits_le 17 n.natAbs (by omega)
  omega
 ·rw [Lib.decDigits_length]
  have := nDigits_le 17 n.toNat (by omega)
  omega
theorem wList_ge {w : Tx → J → Tx} (hw : ∀ b j,b.length ≤ (w b j).length) : ∀ (l : List J) (first : Bool) (b : Tx),b.length ≤ (wList w first b l).length
 | [],_,_ => Nat.le_refl _
 | j :: l,first,b => by
  unfold wList
  refine Nat.le_trans ?_ (wList_ge hw l _ _)
  refine Nat.le_trans ?_ (hw _ _)
  split <;> simp
theorem wMap_ge {w : Tx → J → Tx} (hw : ∀ b j,b.length ≤ (w b j).length) {ks : List Tx} {l : List J} : ∀ (P : List Nat) (first : Bool) (b : Tx),b.length ≤ (wMap w ks l first b P).length
 | [],_,_ => Nat.le_refl _
 | j :: P,first,b => by
  unfold wMap
  refine Nat.le_trans ?_ (wMap_ge hw P _ _)
  refine Nat.le_trans ?_ (hw _ _)
  split <;> simp <;> omega
theorem writeS_ge : ∀ (f : Nat) (b : Tx) (j : J),b.length ≤ (writeS f b j).length
 | 0,_,_ => Nat.le_refl _
 | f + 1,b,j => by
  unfold writeS
  (repeat' split) <;> try (simp; done)
  ·have := wList_ge (writeS_ge f) j.l true (b ++ [91])
   simp only [List.length_append,List.length_singleton] at this ⊢; omega
  ·have := wMap_ge (writeS_ge f) (ks := j.ks) (l := j.l) (byKeys j.ks) true (b ++ [123])
   simp only [List.length_append,List.length_singleton] at this ⊢; omega
def sameB : Nat → J → J → Bool
 | 0,_,_ => false
 | f + 1,a,b => decide (a.k = b.k) && decide (a.n = b.n) && decide (a.t = b.t) && decide (a.ks = b.ks) && decide (a.l.length = b.l.length) && (List.zipWith (sameB f) a.l b.l).all id
theorem perm_sum {l m : List Nat} (h : l.Perm m) : l.sum = m.sum := by
 induction h with
 | nil => rfl
 | cons x _ ih => simp only [List.sum_cons,ih]
 | swap x y l => simp only [List.sum_cons]; omega
 | trans _ _ h1 h2 => exact h1.trans h2
theorem range_getD {α : Type} (l : List α) (d : α) : (List.range l.length).map (fun i => l.getD i d) = l := by
 apply List.ext_getElem
 ·simp
 ·intro i h1 h2
  simp [List.getD,h2]
theorem getD_map {α β : Type} (f : α → β) (l : List α) {i : Nat} (h : i < l.length) (d : α) (e : β) : (l.map f).getD i e = f (l.getD i d) := by
 simp [List.getD,h]
theorem wList_le {w : Tx → J → Tx} : ∀ (l : List J) (first : Bool) (b : Tx),(∀ y ∈ l,∀ b,(w b y).length + 1 ≤ b.length + 32 * wt y) → (wList w first b l).length ≤ b.length + 32 * wts l
 | [],_,b,_ => by simp [wList]
 | j :: l,first,b,h => by
  unfold wList
  have h1 := wList_le l false (w (if first = true then b else b ++ [44]) j) fun y hy => h y (List.mem_cons_of_mem _ hy)
  have h2 := h j (by simp) (if first = true then b else b ++ [44])
  have h3 : (if first = true then b else b ++ [44]).length ≤ b.length + 1 := by split <;> simp
  rw [wts_cons]; omega
theorem wMap_le {w : Tx → J → Tx} {ks : List Tx} {l : List J} : ∀ (P : List Nat) (first : Bool) (b : Tx),(∀ i ∈ P,∀ b,(w b (l.getD i J.zero)).length + 1 ≤ b.length + 32 * wt (l.getD i J.zero)) →
  (wMap w ks l first b P).length ≤ b.length + (P.map fun i => 32 * wt (l.getD i J.zero) + 6 * (ks.getD i []).length + 4).sum
 | [],_,b,_ => by simp [wMap]
 | j :: P,first,b,h => by
  unfold wMap
  have h1 := wMap_le (ks := ks) P false (w ((if first = true then b else b ++ [44]) ++ quoteB (ks.getD j []) ++ [58]) (l.getD j J.zero)) fun y hy => h y (List.mem_cons_of_mem _ hy)
  have h2 := h j (by simp) ((if first = true then b else b ++ [44]) ++ quoteB (ks.getD j []) ++ [58])
  have h3 : (if first = true then b else b ++ [44]).length ≤ b.length + 1 := by split <;> simp
  have h4 := quoteB_len (ks.getD j [])
  simp only [List.length_append,List.length_singleton] at h2
  rw [List.map_cons,List.sum_cons]; omega
theorem sum_pts : ∀ (f : J → Nat) (g : Tx → Nat) (ks : List Tx) (l : List J) (P : List Nat),(P.map fun i => 32 * f (l.getD i J.zero) + 6 * g (ks.getD i []) + 4).sum = 32 * (P.map fun i => f (l.getD i J.zero)).sum + 6 * (P.map fun i => g (ks.getD i [])).sum + 4 * P.length
 | f,g,ks,l,[] => rfl
 | f,g,ks,l,i :: P => by
  have := sum_pts f g ks l P
  simp only [List.map_cons,List.sum_cons,List.length_cons,this]; omega
theorem wts_sum : ∀ l : List J,(l.map wt).sum = wts l
 | [] => rfl
 | a :: l => by rw [List.map_cons,List.sum_cons,wts_sum l,wts_cons]
theorem len_sum : ∀ ks : List Tx,(ks.map List.length).sum + ks.length = (ks.map fun k => k.length + 1).sum
 | [] => rfl
 | a :: l => by have := len_sum l; simp only [List.map_cons,List.sum_cons,List.length_cons] at *; omega
theorem shaped_num {j : J} (h : shapedB j = true) (h2 : j.k = 2) : -9007199254740991 ≤ j.n ∧ j.n ≤ 9007199254740991 := by
 unfold shapedB at h
 rw [if_neg (by omega),if_neg (by omega),if_pos h2] at h
 simp only [Bool.and_eq_true,decide_eq_true_eq] at h
 exact ⟨h.1.2,h.2⟩
theorem shaped_map {j : J} (h : shapedB j = true) (h5 : j.k = 5) : j.ks.length = j.l.length ∧ j.ks.Nodup := by
 unfold shapedB at h
 rw [if_neg (by omega),if_neg (by omega),if_neg (by omega),if_neg (by omega),if_neg (by omega),if_pos h5] at h
 simp only [Bool.and_eq_true,decide_eq_true_eq,namedB] at h
 exact ⟨h.1.1.1,h.2.2⟩
theorem writeS_le : ∀ (f : Nat) (b : Tx) (j : J),goodB f j = true → (writeS f b j).length + 1 ≤ b.length + 32 * wt j
 | 0,_,_,h => by cases h
 | f + 1,b,j,h => by
  obtain ⟨hs,ha⟩ := Bool.and_eq_true_iff.1 (show (shapedB j && j.l.all (goodB f)) = true from h)
  have hall : ∀ y ∈ j.l,goodB f y = true := fun y hy => List.all_eq_true.1 ha y hy
  have hw := wt_eq j
  unfold writeS
  split
  ·omega
  split
  ·rw [List.length_append]; split <;> simp <;> omega
  split
  ·rename_i h2
   obtain ⟨r1,r2⟩ := shaped_num hs h2
   have := itoa_len r1 r2
   rw [List.length_append]; omega
  split
  ·have := quoteB_len j.t
   rw [List.length_append]; omega
  split
  ·have := wList_le (w := writeS f) j.l true (b ++ [91]) fun y hy b => writeS_le f b y (hall y hy)
   simp only [List.length_append,List.length_singleton] at this ⊢; omega
  split
  ·rename_i h5
   obtain ⟨hl,hd⟩ := shaped_map hs h5
   have h1 := wMap_le (w := writeS f) (ks := j.ks) (l := j.l) (byKeys j.ks) true (b ++ [123]) fun i hi b => writeS_le f b _ (hall _ (by
    have := byKeys_lt hi
    simp only [List.getD,List.getElem?_eq_getElem (show i < j.l.length by omega),Option.getD_some]
    exact List.getElem_mem _))
   rw [sum_pts wt List.length,perm_sum ((byKeys_perm j.ks).map fun i => wt (j.l.getD i J.zero)),perm_sum ((byKeys_perm j.ks).map fun i => (j.ks.getD i []).length),byKeys_length] at h1
   have e1 : (List.range j.ks.length).map (fun i => wt (j.l.getD i J.zero)) = j.l.map wt := by
    rw [hl,show (fun i => wt (j.l.getD i J.zero)) = wt ∘ (fun i => j.l.getD i J.zero) from rfl,← List.map_map,range_getD]
   have e2 : (List.range j.ks.length).map (fun i => (j.ks.getD i []).length) = j.ks.map List.length := by
    rw [show (fun i => (j.ks.getD i []).length) = List.length ∘ (fun i => j.ks.getD i []) from rfl,← List.map_map,range_getD]
   rw [e1,e2,wts_sum] at h1
   have h3 := len_sum j.ks
   simp only [List.length_append,List.length_singleton] at h1 ⊢
   omega
  ·simp only [List.length_append,List.length_cons,List.length_nil]; omega
def Rel (r e : Tx) : Prop := r = e ∨ (16384 < r.length ∧ 16384 < e.length)
theorem Rel.app {r e : Tx} (h : Rel r e) (x : Tx) : Rel (r ++ x) (e ++ x) := by
 rcases h with rfl | ⟨h1,h2⟩
 ·exact .inl rfl
 ·exact .inr ⟨by rw [List.length_append]; omega,by rw [List.length_append]; omega⟩
def tailC (E : List Tx) : Tx := E.flatMap fun e => 44 :: e
theorem commas_tail : ∀ (a : Tx) (E : List Tx),commas (a :: E) = a ++ tailC E
 | a,[] => by simp [commas,tailC]
 | a,b :: E => by
  show a ++ 44 :: commas (b :: E) = a ++ tailC (b :: E)
  rw [commas_tail b E]; simp [tailC]
theorem wList_rel {w : Tx → J → Tx} {enc : J → Tx} (hg : ∀ b j,b.length ≤ (w b j).length) : ∀ (l : List J) (b : Tx),(∀ y ∈ l,∀ b,Rel (w b y) (b ++ enc y)) → Rel (wList w false b l) (b ++ tailC (l.map enc))
 | [],b,_ => .inl (by simp [wList,tailC])
 | j :: l,b,h => by
  unfold wList
  rw [if_neg (by simp)]
  have h1 := h j (by simp) (b ++ [44])
  have e : b ++ tailC ((j :: l).map enc) = (b ++ [44] ++ enc j) ++ tailC (l.map enc) := by simp [tailC]
  rw [e]
  rcases h1 with h1 | ⟨h1,h2⟩
  ·rw [h1]
   exact wList_rel hg l _ fun y hy => h y (List.mem_cons_of_mem _ hy)
  ·have h3 := wList_ge hg l false (w (b ++ [44]) j)
   exact .inr ⟨by omega,by rw [List.length_append]; omega⟩
theorem wMap_rel {w : Tx → J → Tx} {enc : J → Tx} (hg : ∀ b j,b.length ≤ (w b j).length) {ks : List Tx} {l : List J} : ∀ (P : List Nat) (b : Tx),(∀ i ∈ P,∀ b,Rel (w b (l.getD i J.zero)) (b ++ enc (l.getD i J.zero))) →
  Rel (wMap w ks l false b P) (b ++ tailC (P.map fun i => pairB (ks.getD i []) (enc (l.getD i J.zero))))
 | [],b,_ => .inl (by simp [wMap,tailC])
 | j :: P,b,h => by
  unfold wMap
  rw [if_neg (by simp)]
  have h1 := h j (by simp) (b ++ [44] ++ quoteB (ks.getD j []) ++ [58])
  have e : b ++ tailC ((j :: P).map fun i => pairB (ks.getD i []) (enc (l.getD i J.zero))) = (b ++ [44] ++ quoteB (ks.getD j []) ++ [58] ++ enc (l.getD j J.zero)) ++ tailC (P.map fun i => pairB (ks.getD i []) (enc (l.getD i J.zero))) := by simp [tailC,pairB]
  rw [e]
  rcases h1 with h1 | ⟨h1,h2⟩
  ·rw [h1]
   exact wMap_rel hg P _ fun y hy => h y (List.mem_cons_of_mem _ hy)
  ·have h3 := wMap_ge hg (ks := ks) (l := l) P false (w (b ++ [44] ++ quoteB (ks.getD j []) ++ [58]) (l.getD j J.zero))
   exact .inr ⟨by omega,by rw [List.length_append]; omega⟩
theorem zip_map {α β γ δ : Type} (f : β → γ → δ) (g : α → β) (h : α → γ) : ∀ P : List α,List.zipWith f (P.map g) (P.map h) = P.map fun i => f (g i) (h i)
 | [] => rfl
 | a :: P => by simp [zip_map f g h P]
theorem write_rel : ∀ (f : Nat) (b : Tx) (j : J),goodB f j = true → Rel (writeS f b j) (b ++ encJ (orderJ j))
 | 0,_,_,h => by cases h
 | f + 1,b,j,h => by
  obtain ⟨hs,ha⟩ := Bool.and_eq_true_iff.1 (show (shapedB j && j.l.all (goodB f)) = true from h)
  have hall : ∀ y ∈ j.l,goodB f y = true := fun y hy => List.all_eq_true.1 ha y hy
  have hk : (orderJ j).k = j.k ∧ (orderJ j).n = j.n ∧ (orderJ j).t = j.t := by
   rw [orderJ_eq]; split <;> exact ⟨rfl,rfl,rfl⟩
  rw [encJ_eq,hk.1,hk.2.1,hk.2.2]
  unfold writeS
  by_cases hb : 16384 < b.length
  ·rw [if_pos hb]
   exact .inr ⟨hb,by rw [List.length_append]; omega⟩
  rw [if_neg hb]
  split
  ·exact .inl rfl
  split
  ·exact .inl rfl
  split
  ·exact .inl rfl
  split
  ·rename_i h4
   have e : (orderJ j).l = j.l.map orderJ := by rw [orderJ_eq,if_neg (by omega)]; rfl
   rw [e,List.map_map]
   cases hl : j.l with
   | nil => exact .inl (by simp [wList,commas])
   | cons y l =>
    have hy : ∀ z ∈ y :: l,goodB f z = true := by rw [← hl]; exact hall
    rw [List.map_cons,commas_tail]
    have h1 := write_rel f (b ++ [91]) y (hy y (by simp))
    have e : b ++ 91 :: (((encJ ∘ orderJ) y ++ tailC (l.map (encJ ∘ orderJ))) ++ [93]) = ((b ++ [91] ++ encJ (orderJ y)) ++ tailC (l.map (encJ ∘ orderJ))) ++ [93] := by simp
    rw [e]
    refine Rel.app ?_ _
    unfold wList
    rw [if_pos rfl]
    rcases h1 with h1 | ⟨h1,h2⟩
    ·rw [h1]
     exact wList_rel (writeS_ge f) l _ fun z hz b => write_rel f b z (hy z (List.mem_cons_of_mem _ hz))
    ·have h3 := wList_ge (writeS_ge f) l false (writeS f (b ++ [91]) y)
     exact .inr ⟨by omega,by rw [List.length_append]; omega⟩
  split
  ·rename_i h5
   obtain ⟨hlen,hd⟩ := shaped_map hs h5
   have e1 : (orderJ j).ks = (byKeys j.ks).map fun i => j.ks.getD i [] := by rw [orderJ_eq,if_pos h5]; rfl
   have e2 : (orderJ j).l = (byKeys j.ks).map fun i => (j.l.map orderJ).getD i J.zero := by rw [orderJ_eq,if_pos h5]; rfl
   have e3 : (orderJ j).l.map encJ = (byKeys j.ks).map fun i => encJ (orderJ (j.l.getD i J.zero)) := by
    rw [e2,List.map_map]
    apply List.map_congr_left
    intro i hi
    have := byKeys_lt hi
    show encJ ((j.l.map orderJ).getD i J.zero) = _
    rw [getD_map orderJ j.l (by omega) J.zero]
   rw [e1,e3,zip_map]
   have hm : ∀ i ∈ byKeys j.ks,goodB f (j.l.getD i J.zero) = true := fun i hi => hall _ (by
    have := byKeys_lt hi
    simp only [List.getD,List.getElem?_eq_getElem (show i < j.l.length by omega),Option.getD_some]
    exact List.getElem_mem _)
   generalize byKeys j.ks = P at hm ⊢
   cases P with
   | nil => exact .inl (by simp [wMap,commas])
   | cons y P =>
    rw [List.map_cons,commas_tail]
    have h1 := write_rel f (b ++ [123] ++ quoteB (j.ks.getD y []) ++ [58]) (j.l.getD y J.zero) (hm y (by simp))
    have e : b ++ 123 :: ((pairB (j.ks.getD y []) (encJ (orderJ (j.l.getD y J.zero))) ++ tailC (P.map fun i => pairB (j.ks.getD i []) (encJ (orderJ (j.l.getD i J.zero))))) ++ [125]) =
      ((b ++ [123] ++ quoteB (j.ks.getD y []) ++ [58] ++ encJ (orderJ (j.l.getD y J.zero))) ++ tailC (P.map fun i => pairB (j.ks.getD i []) (encJ (orderJ (j.l.getD i J.zero))))) ++ [125] := by simp [pairB]
    rw [e]
    refine Rel.app ?_ _
    unfold wMap
    rw [if_pos rfl]
    rcases h1 with h1 | ⟨h1,h2⟩
    ·rw [h1]
     exact wMap_rel (enc := fun j => encJ (orderJ j)) (writeS_ge f) P _ fun z hz b => write_rel f b _ (hm z (List.mem_cons_of_mem _ hz))
    ·have h3 := wMap_ge (writeS_ge f) (ks := j.ks) (l := j.l) P false (writeS f (b ++ [123] ++ quoteB (j.ks.getD y []) ++ [58]) (j.l.getD y J.zero))
     exact .inr ⟨by omega,by rw [List.length_append]; omega⟩
  ·exact .inl rfl
def encodeS (j : J) : Except Nat Tx := if goodB 12 j then (if 16384 < (encJ (orderJ j)).length then .error 13 else .ok (encJ (orderJ j))) else .error 1
theorem encode_write {j : J} (h : goodB 12 j = true) : encodeS j = if 16384 < (writeS 12 [] j).length then .error 13 else .ok (writeS 12 [] j) := by
 unfold encodeS
 rw [if_pos h]
 have := write_rel 12 [] j h
 rw [List.nil_append] at this
 rcases this with h1 | ⟨h1,h2⟩
 ·rw [h1]
 ·rw [if_pos h1,if_pos h2]
theorem J.ext {a b : J} (h1 : a.k = b.k) (h2 : a.n = b.n) (h3 : a.t = b.t) (h4 : a.ks = b.ks) (h5 : a.l = b.l) : a = b := by
 obtain ⟨k,n,t,ks,l⟩ := a
 obtain ⟨k',n',t',ks',l'⟩ := b
 simp only [J.k,J.n,J.t,J.ks,J.l] at h1 h2 h3 h4 h5
 subst h1 h2 h3 h4 h5; rfl
theorem strs_inj : ∀ {a b : List Tx},a.map D.str = b.map D.str → a = b
 | [],[],_ => rfl
 | [],_ :: _,h => by cases h
 | _ :: _,[],h => by cases h
 | x :: a,y :: b,h => by
  injection h with h1 h2
  injection h1 with h1
  rw [h1,strs_inj h2]
theorem jd_inj_aux : ∀ (n : Nat) (a b : J),wt a ≤ n → a.d = b.d → a = b
 | 0,a,_,h,_ => absurd (wt_pos a) (by omega)
 | n + 1,a,b,h,e => by
  rw [jd,jd] at e
  injection e with e
  simp only [List.cons.injEq,D.int.injEq,D.str.injEq,D.slice.injEq,true_and,and_true] at e
  obtain ⟨h1,h2,h3,h4,h5⟩ := e
  refine J.ext h1 h2 h3 (strs_inj h4) ?_
  have key : ∀ l m : List J,(∀ y ∈ l,wt y ≤ n) → l.map J.d = m.map J.d → l = m := by
   intro l
   induction l with
   | nil => intro m _ hm; cases m with
    | nil => rfl
    | cons _ _ => cases hm
   | cons y l ih =>
    intro m hw hm
    cases m with
    | nil => cases hm
    | cons z m =>
     injection hm with h1 h2
     rw [jd_inj_aux n y z (hw y (by simp)) h1,ih m (fun y hy => hw y (List.mem_cons_of_mem _ hy)) h2]
  exact key a.l b.l (fun y hy => by have := wt_mem hy; omega) h5
theorem jd_inj {a b : J} (h : a.d = b.d) : a = b := jd_inj_aux (wt a) a b (Nat.le_refl _) h
def sJ (a b : J) : Bool := D.beq a.d b.d
theorem sJ_iff (a b : J) : sJ a b = true ↔ a = b := by
 unfold sJ
 rw [@D.beq_iff ⟨fun _ => none,fun _ => false,fun _ => false⟩]
 exact ⟨jd_inj,fun h => by rw [h]⟩
theorem sJ_self (a : J) : sJ a a = true := (sJ_iff a a).2 rfl
theorem sJ_ne {a b : J} (h : a ≠ b) : sJ a b = false := by rw [Bool.eq_false_iff,Ne,sJ_iff]; exact h
def digF : Nat → Nat → Tx → Tx
 | 0,_,s => s
 | f + 1,n,s => if s = [] ∨ 0 < n then digF f (n / 10) (UInt8.ofNat (48 + n % 10) :: s) else s
end Go.Proofs.YtmhmjlfajlpabaaDoor
namespace Go.Proofs.YtmhmjlfajlpabaaDoor
open Go Go.Abs Go.Lib
theorem take_succ_eq {α : Type} {a b : List α} {i : Nat} {x y : α} (h : a.take i = b.take i) (ha : a[i]? = some x) (hb : b[i]? = some y) (e : x = y) : a.take (i + 1) = b.take (i + 1) := by
 rw [List.take_add_one,List.take_add_one,ha,hb,h,e]
theorem Same_ev : ∀ (N : Nat) (lim : Nat) (H : AHeap) (a b : J),wt a ≤ N → N ≤ 100000000000 → wt b ≤ 100000000000 → Ev (envN code primsF) 14 lim [.d a.d,.d b.d] H (boolD (sJ a b)) H
 | 0,_,_,a,_,h,_,_ => absurd (wt_pos a) (by omega)
 | N + 1,lim,H,a,b,ha,hN,hb => by
  refine Fn.ev ?_
  refine Fn_of (pn rfl) rfl (show code 14 = some c14 from rfl) rfl ?_; simp only [List.length_cons,List.length_nil,List.cons_append,List.nil_append,simprocAttr]
  have had := jd a
  have hbd := jd b
  obtain ⟨J',hJ⟩ : ∃ J',H ++ [AObj.cells (jC a)] = J' := ⟨_,rfl⟩
  obtain ⟨K,hK⟩ : ∃ K,J' ++ [AObj.cells (jC b)] = K := ⟨_,rfl⟩
  have gK : K[H.length]? = some (.cells (jC a)) := by rw [← hK,← hJ]; exact get_more _ (get_last _ _)
  have gK2 : K[J'.length]? = some (.cells (jC b)) := by rw [← hK]; exact get_last _ _
  have a1 := wt_ks a
  have a2 := wt_l a
  have b1 := wt_ks b
  have b2 := wt_l b
  (iterate 2 refine w_s (j_ had (j_ hbd (j_ hJ hK))) ?_)
  by_cases k1 : a.k = b.k
  rotate_left
  ·have f1 : (a.k != b.k) = true := by simpa using k1
   rw [sJ_ne fun e => k1 (by rw [e])]
   refine w_r (j_ gK (j_ gK2 f1)) ?_
   exact ans_cut rfl rfl ⟨rfl,rfl⟩
  have f1 : (a.k != b.k) = false := by simpa using k1
  by_cases k2 : a.n = b.n
  rotate_left
  ·have f2 : (a.n != b.n) = true := by simpa using k2
   rw [sJ_ne fun e => k2 (by rw [e])]
   refine w_r (j_ gK (j_ gK2 (j_ f1 f2))) ?_
   exact ans_cut rfl rfl ⟨rfl,rfl⟩
  have f2 : (a.n != b.n) = false := by simpa using k2
  by_cases k3 : a.t = b.t
  rotate_left
  ·have f3 : (!(a.t == b.t)) = true := by simpa using k3
   rw [sJ_ne fun e => k3 (by rw [e])]
   refine w_r (j_ gK (j_ gK2 (j_ f1 (j_ f2 f3)))) ?_
   exact ans_cut rfl rfl ⟨rfl,rfl⟩
  have f3 : (!(a.t == b.t)) = false := by simpa using k3
  by_cases k4 : a.ks.length = b.ks.length
  rotate_left
  ·have f4 : ((a.ks.length : Int) != (b.ks.length : Int)) = true := by simp; omega
   rw [sJ_ne fun e => k4 (by rw [e])]
   refine w_r (j_ gK (j_ gK2 (j_ f1 (j_ f2 (j_ f3 (j_ f4 (@List.length_map.{0,0}))))))) ?_
   exact ans_cut rfl rfl ⟨rfl,rfl⟩
  have f4 : ((a.ks.length : Int) != (b.ks.length : Int)) = false := by simp; omega
  by_cases k5 : a.l.length = b.l.length
  rotate_left
  ·have f5 : ((a.l.length : Int) != (b.l.length : Int)) = true := by simp; omega
   rw [sJ_ne fun e => k5 (by rw [e])]
   refine w_r (j_ gK (j_ gK2 (j_ f1 (j_ f2 (j_ f3 (j_ f4 (j_ f5 (@List.length_map.{0,0})))))))) ?_
   exact ans_cut rfl rfl ⟨rfl,rfl⟩
  have f5 : ((a.l.length : Int) != (b.l.length : Int)) = false := by simp; omega
  refine w_r (j_ gK (j_ gK2 (j_ f1 (j_ f2 (j_ f3 (j_ f4 (j_ f5 (@List.length_map.{0,0})))))))) ?_
  refine W_lp (fun k st => ∃ i : Nat,i ≤ a.ks.length ∧ k = a.ks.length - i ∧ a.ks.take i = b.ks.take i ∧ ∃ x : Nat → AV,st = ⟨[x 0,x 1,x 2,x 3,x 4,x 5,x 6,boolD false,.ptr H.length 0,.ptr J'.length 0,intD i,x 11,x 12,x 13,x 14],K⟩) ?_ _ _ ⟨0,Nat.zero_le _,rfl,rfl,ex_st _ _ _ rfl⟩
  rintro k _ ⟨i,hi,rfl,he,x,rfl⟩
  by_cases t0 : i < a.ks.length
  ·have g1 : ((i : Int) < (a.ks.length : Int)) = True := eq_true (by omega)
   have w1 : IntKind.i64.wrap ((i : Int) + 1) = ((i + 1 : Nat) : Int) := wsucc (by omega)
   obtain ⟨s,hs⟩ : ∃ s,a.ks[i]? = some s := ⟨_,List.getElem?_eq_getElem t0⟩
   obtain ⟨t,ht⟩ : ∃ t,b.ks[i]? = some t := ⟨_,List.getElem?_eq_getElem (by omega)⟩
   have hc : ∀ s : Tx,(D.str s).cells = [D.str s] := fun _ => rfl
   by_cases h : s = t
   ·have g2 : (!(s == t)) = false := by simpa using h
    refine w_r (j_ gK (j_ gK2 (j_ g1 (j_ w1 (j_ hs (j_ ht (j_ hc (j_ g2 (@List.length_map.{0,0}))))))))) ?_
    exact ⟨a.ks.length - (i + 1),by omega,i + 1,t0,rfl,take_succ_eq he hs ht h,ex_st _ _ _ rfl⟩
   ·have g2 : (!(s == t)) = true := by simpa using h
    rw [sJ_ne fun e => h (by rw [e,ht] at hs; exact (Option.some.inj hs).symm)]
    refine w_r (j_ gK (j_ gK2 (j_ g1 (j_ hs (j_ ht (j_ hc (j_ g2 (@List.length_map.{0,0})))))))) ?_
    exact ans_cut rfl rfl ⟨rfl,rfl⟩
  ·obtain rfl : i = a.ks.length := by omega
   have g1 : ((a.ks.length : Int) < (a.ks.length : Int)) = False := eq_false (by omega)
   rw [List.take_length,k4,List.take_length] at he
   refine w_r (j_ gK (j_ g1 (@List.length_map.{0,0}))) ?_
   refine W_lp (fun k st => ∃ i : Nat,i ≤ a.l.length ∧ k = a.l.length - i ∧ a.l.take i = b.l.take i ∧ ∃ x : Nat → AV,st = ⟨[x 0,x 1,x 2,x 3,x 4,x 5,x 6,boolD false,.ptr H.length 0,.ptr J'.length 0,x 10,intD i,x 12,x 13,x 14],K⟩) ?_ _ _ ⟨0,Nat.zero_le _,rfl,rfl,ex_st _ _ _ rfl⟩
   rintro k _ ⟨i,hi,rfl,hel,x,rfl⟩
   by_cases t0 : i < a.l.length
   ·have g1 : ((i : Int) < (a.l.length : Int)) = True := eq_true (by omega)
    have w1 : IntKind.i64.wrap ((i : Int) + 1) = ((i + 1 : Nat) : Int) := wsucc (by omega)
    obtain ⟨y,hy⟩ : ∃ y,a.l[i]? = some y := ⟨_,List.getElem?_eq_getElem t0⟩
    obtain ⟨z,hz⟩ : ∃ z,b.l[i]? = some z := ⟨_,List.getElem?_eq_getElem (by omega)⟩
    have hyd := jd y
    have hzd := jd z
    have hs := Same_ev N H.length K y z (by have := wt_mem (List.mem_of_getElem? hy); omega) (by omega) (by have := wt_mem (List.mem_of_getElem? hz); omega)
    simp only [hyd,hzd] at hs
    by_cases h : y = z
    ·rw [(sJ_iff y z).2 h] at hs
     refine w_r (j_ gK (j_ g1 (@List.length_map.{0,0}))) ?_
     refine W_region ?_; apply WO_take 8; (focus (intro _; simp only [zz,simprocAttr,gK,gK2,hy,hz,hyd,hzd]; (first | done | with_reducible exact rfl))); simp only [List.drop_succ_cons,List.drop_zero]; refine WO_call ?_; simp only [zz,simprocAttr]; refine Ev.fn hs ?_
     (apply WO_end; (focus (intro _; simp only [zz,simprocAttr]; (first | done | with_reducible exact rfl)))) <;> (try simp only [zp,simprocAttr])
     refine w_r w1 ?_
     exact ⟨a.l.length - (i + 1),by omega,i + 1,t0,rfl,take_succ_eq hel hy hz h,ex_st _ _ _ rfl⟩
    ·rw [sJ_ne h] at hs
     rw [sJ_ne fun e => h (by rw [e,hz] at hy; exact (Option.some.inj hy).symm)]
     refine w_r (j_ gK (j_ g1 (@List.length_map.{0,0}))) ?_
     refine W_region ?_; apply WO_take 8; (focus (intro _; simp only [zz,simprocAttr,gK,gK2,hy,hz,hyd,hzd]; (first | done | with_reducible exact rfl))); simp only [List.drop_succ_cons,List.drop_zero]; refine WO_call ?_; simp only [zz,simprocAttr]; refine Ev.fn hs ?_
     (apply WO_end; (focus (intro _; simp only [zz,simprocAttr]; (first | done | with_reducible exact rfl)))) <;> (try simp only [zp,simprocAttr])
     refine w_r trivial ?_
     exact ans_cut rfl rfl ⟨rfl,rfl⟩
   ·obtain rfl : i = a.l.length := by omega
    have g1 : ((a.l.length : Int) < (a.l.length : Int)) = False := eq_false (by omega)
    rw [List.take_length,k5,List.take_length] at hel
    rw [(sJ_iff a b).2 (J.ext k1 k2 k3 he hel)]
    refine w_r (j_ gK (j_ g1 (@List.length_map.{0,0}))) ?_
    exact ans_cut rfl rfl ⟨rfl,rfl⟩
theorem dec_step (m : Nat) : (if m / 10 = 0 then [] else Lib.decDigits (m / 10)) ++ [UInt8.ofNat (48 + m % 10)] = Lib.decDigits m := by
 conv => rhs; rw [Lib.decDigits]
 by_cases h : m < 10
 ·rw [dif_pos h,if_pos (by omega),Nat.mod_eq_of_lt h]; rfl
 ·rw [dif_neg h,if_neg (by omega)]
theorem tmod10 (m : Nat) : binInt .rem .i64 (m : Int) 10 = some (.int .i64 ((m % 10 : Nat) : Int)) := by
 simp only [binInt]
 rw [if_neg (by decide)]
 rfl
theorem tdiv10 (m : Nat) (h : m < 9223372036854775808) : binInt .quo .i64 (m : Int) 10 = some (.int .i64 ((m / 10 : Nat) : Int)) := by
 simp only [binInt]
 rw [if_neg (by decide)]
 have : (m : Int).tdiv 10 = ((m / 10 : Nat) : Int) := rfl
 rw [this,w64n _ (by omega)]
theorem digits_pos (lim : Nat) (H : AHeap) (N : Nat) (hN : N < 1000000000000000000) : Ev (envN code primsF) 50 lim [intD N] H (.d (.str (Lib.decDigits N))) H := by
 refine Fn.ev ?_
 refine Fn_of (pn rfl) rfl (show code 50 = some c50 from rfl) rfl ?_; simp only [List.length_cons,List.length_nil,List.cons_append,List.nil_append,simprocAttr]
 have f0 : ((N : Int) < 0) = False := eq_false (by omega)
 have hL : (Lib.decDigits N).length ≤ 20 := by rw [Lib.decDigits_length]; have := nDigits_le 17 N (by omega); omega
 refine w_r f0 ?_
 refine W_lp (fun k st => ∃ (m : Nat) (s : Tx),m ≤ N ∧ k = m + (if s = [] then 1 else 0) ∧ ((s = [] ∧ m = N) ∨ (s ≠ [] ∧ (if m = 0 then [] else Lib.decDigits m) ++ s = Lib.decDigits N)) ∧ ∃ x : Nat → AV,st = ⟨[intD m,x 1,x 2,.d (.str []),.d (.str s),x 5,x 6],H⟩) ?_ _ _ ⟨N,[],Nat.le_refl _,rfl,.inl ⟨rfl,rfl⟩,ex_st _ _ _ rfl⟩
 rintro k _ ⟨m,s,hm,rfl,hs,x,rfl⟩
 have hsl : s.length ≤ 20 := by
  rcases hs with ⟨rfl,_⟩ | ⟨_,h⟩
  ·simp
  ·have := congrArg List.length h
   rw [List.length_append] at this
   omega
 have step : ∃ k',k' < m + (if s = [] then 1 else 0) → True := ⟨0,fun _ => trivial⟩
 have n1 := tmod10 m
 have n2 := tdiv10 m (by omega)
 have n3 : IntKind.i64.wrap (48 + ((m % 10 : Nat) : Int)) = ((48 + m % 10 : Nat) : Int) := by rw [w64 (by omega) (by omega)]; omega
 have n4 : IntKind.u8.wrap ((48 + m % 10 : Nat) : Int) = ((48 + m % 10 : Nat) : Int) := u8w _ (by omega)
 have n5 : ([UInt8.ofNat (48 + m % 10)] : Tx).length + s.length ≤ 9223372036854775807 := by simp; omega
 have n6 : 0 + 1 + s.length ≤ 9223372036854775807 := by omega
 by_cases h0 : s = []
 ·have c0 : (s == []) = true := by simpa using h0
  have hmN : m = N := by
   rcases hs with ⟨_,h⟩ | ⟨h,_⟩
   ·exact h
   ·exact absurd h0 h
  (repeat ((first | refine W_sq ?_ | refine W_bk ?_ | refine W_ret ?_ | refine W_exit ?_ | refine W_skip ?_ | (apply W_rg; focus (intro _; simp only [zz,simprocAttr,c0,n1,n2,n3,n4,n5,n6,bytesOf]; (first | done | with_reducible exact rfl))) | (refine W_cT ?_ ?_; focus (simp only [zp,simprocAttr]; done)) | (refine W_cF ?_ ?_; focus (simp only [zp,simprocAttr]; done))) <;> (try simp only [zp,simprocAttr])))
  refine ⟨m / 10,by rw [if_pos h0]; omega,m / 10,UInt8.ofNat (48 + m % 10) :: s,by omega,by simp,.inr ⟨by simp,?_⟩,ex_st _ _ _ rfl⟩
  have := dec_step m
  rw [h0,this,hmN]
 ·have c0 : (s == []) = false := by simpa using h0
  by_cases h1 : 0 < m
  ·have c1 : ((m : Int) > 0) = True := eq_true (by omega)
   have hds : (if m = 0 then [] else Lib.decDigits m) ++ s = Lib.decDigits N := by
    rcases hs with ⟨h,_⟩ | ⟨_,h⟩
    ·exact absurd h h0
    ·exact h
   (repeat ((first | refine W_sq ?_ | refine W_bk ?_ | refine W_ret ?_ | refine W_exit ?_ | refine W_skip ?_ | (apply W_rg; focus (intro _; simp only [zz,simprocAttr,c0,c1,n1,n2,n3,n4,n5,n6,bytesOf]; (first | done | with_reducible exact rfl))) | (refine W_cT ?_ ?_; focus (simp only [zp,simprocAttr]; done)) | (refine W_cF ?_ ?_; focus (simp only [zp,simprocAttr]; done))) <;> (try simp only [zp,simprocAttr])))
   refine ⟨m / 10,by rw [if_neg h0]; omega,m / 10,UInt8.ofNat (48 + m % 10) :: s,by omega,by simp,.inr ⟨by simp,?_⟩,ex_st _ _ _ rfl⟩
   rw [if_neg (by omega),← dec_step m,List.append_assoc] at hds
   exact hds
  ·have c1 : ((m : Int) > 0) = False := eq_false (by omega)
   have hds : s = Lib.decDigits N := by
    rcases hs with ⟨h,_⟩ | ⟨_,h⟩
    ·exact absurd h h0
    ·rw [if_pos (by omega)] at h; exact h
   rw [← hds]
   refine w_r (j_ c0 c1) ?_
   exact ans_cut rfl rfl ⟨rfl,rfl⟩
theorem Digits_ev (lim : Nat) (H : AHeap) (n : Int) (h1 : -9007199254740991 ≤ n) (h2 : n ≤ 9007199254740991) : Ev (envN code primsF) 50 lim [.d (.int .i64 n)] H (.d (.str (Lib.itoa n))) H := by
 by_cases h : n < 0
 ·refine Fn.ev ?_
  refine Fn_of (pn rfl) rfl (show code 50 = some c50 from rfl) rfl ?_; simp only [List.length_cons,List.length_nil,List.cons_append,List.nil_append,simprocAttr]
  have f0 : (n < 0) = True := eq_true h
  have hp := digits_pos H.length H n.natAbs (by omega)
  have e : ((n.natAbs : Nat) : Int) = 0 - n := by omega
  rw [e] at hp
  have w1 : IntKind.i64.wrap (0 - n) = 0 - n := w64 (by omega) (by omega)
  have hL : (Lib.decDigits n.natAbs).length ≤ 20 := by rw [Lib.decDigits_length]; have := nDigits_le 17 n.natAbs (by omega); omega
  have n6 : 0 + 1 + (Lib.decDigits n.natAbs).length ≤ 9223372036854775807 := by omega
  unfold Lib.itoa
  rw [if_pos h]
  generalize Lib.decDigits n.natAbs = T at *
  refine w_r f0 ?_
  refine w_1 hp (j_ w1 n6) ?_
  refine w_r trivial ?_
  exact ans_cut rfl rfl ⟨rfl,rfl⟩
 ·have := digits_pos lim H n.toNat (by omega)
  unfold Lib.itoa
  rw [if_neg h]
  rwa [show ((n.toNat : Nat) : Int) = n by omega] at this
abbrev hexs : Tx := [48,49,50,51,52,53,54,55,56,57,97,98,99,100,101,102]
theorem hex_piece : ∀ n : Fin 16,(hexs.take (n.val + 1)).drop n.val = [hexC n.val] := by decide
theorem hex_at : ∀ n : Fin 16,hexs[n.val]? = some (hexC n.val) := by decide
theorem quo16 (c : Nat) (h : c < 256) : binInt .quo .u8 (c : Int) 16 = some (.int .u8 ((c / 16 : Nat) : Int)) := by
 simp only [binInt]
 rw [if_neg (by decide)]
 have : (c : Int).tdiv 16 = ((c / 16 : Nat) : Int) := rfl
 rw [this,u8w _ (by omega)]
theorem rem16 (c : Nat) : binInt .rem .u8 (c : Int) 16 = some (.int .u8 ((c % 16 : Nat) : Int)) := by
 simp only [binInt]
 rw [if_neg (by decide)]
 rfl
theorem flat_succ {s : Tx} {i : Nat} {c : UInt8} (h : s[i]? = some c) : (s.take i).flatMap escB ++ escB c = (s.take (i + 1)).flatMap escB := by
 rw [List.take_add_one,h]; simp
set_option maxHeartbeats 1000000 in
--
theorem Text_ev (lim : Nat) (H : AHeap) (s : Tx) (hs : s.length ≤ 100000000000) : Ev (envN code primsF) 51 lim [.d (.str s)] H (.d (.str (quoteB s))) H := by
 refine Fn.ev ?_
 refine Fn_of (pn rfl) rfl (show code 51 = some c51 from rfl) rfl ?_; simp only [List.length_cons,List.length_nil,List.cons_append,List.nil_append,simprocAttr]
 refine w_r trivial ?_
 refine W_lp (fun k st => ∃ i : Nat,i ≤ s.length ∧ k = s.length - i ∧ ∃ x : Nat → AV,st = ⟨[.d (.str s),x 1,x 2,x 3,x 4,x 5,x 6,x 7,x 8,.d (.str []),.d (.str (34 :: (s.take i).flatMap escB)),intD i,x 12,x 13,x 14,x 15],H⟩) ?_ _ _ ⟨0,Nat.zero_le _,rfl,ex_st _ _ _ rfl⟩
 rintro k _ ⟨i,hi,rfl,x,rfl⟩
 have hfl := flat_len (s.take i)
 have htl : (s.take i).length ≤ 100000000000 := by simp; omega
 by_cases t0 : i < s.length
 ·have f1 : ((i : Int) < (s.length : Int)) = True := eq_true (by omega)
  have w1 : IntKind.i64.wrap ((i : Int) + 1) = ((i + 1 : Nat) : Int) := wsucc (by omega)
  obtain ⟨c,hc⟩ : ∃ c,s[i]? = some c := ⟨_,List.getElem?_eq_getElem t0⟩
  have hcl := c.toNat_lt
  have hx := flat_succ hc
  have e1 : (s.take (i + 1)).drop i = [c] := by
   rw [List.take_add_one,hc,List.drop_append_of_le_length (by simp; omega),List.drop_eq_nil_of_le (by simp; omega)]; rfl
  have q1 : (0 : Int) ≤ (i : Int) ∧ (i : Int) ≤ ((i + 1 : Nat) : Int) ∧ ((i + 1 : Nat) : Int) ≤ (s.length : Int) := by omega
  have next : ∀ {st : St},(∃ x : Nat → AV,st = ⟨[.d (.str s),x 1,x 2,x 3,x 4,x 5,x 6,x 7,x 8,.d (.str []),.d (.str (34 :: ((s.take i).flatMap escB ++ escB c))),intD ((i + 1 : Nat) : Int),x 12,x 13,x 14,x 15],H⟩) →
    ∃ m,m < s.length - i ∧ ∃ i : Nat,i ≤ s.length ∧ m = s.length - i ∧ ∃ x : Nat → AV,st = ⟨[.d (.str s),x 1,x 2,x 3,x 4,x 5,x 6,x 7,x 8,.d (.str []),.d (.str (34 :: (s.take i).flatMap escB)),intD i,x 12,x 13,x 14,x 15],H⟩ :=
   fun h => ⟨s.length - (i + 1),by omega,i + 1,t0,rfl,by rw [hx] at h; exact h⟩
  generalize (s.take i).flatMap escB = T at *
  have n0 : T.length + 1 + 1 ≤ 9223372036854775807 := by omega
  have n1 : T.length + 1 + (0 + 1) ≤ 9223372036854775807 := by omega
  have n2 : T.length + 1 + (0 + 1 + 1) ≤ 9223372036854775807 := by omega
  have n3 : T.length + (0 + 1) + 1 + (0 + 1) ≤ 9223372036854775807 := by omega
  have n4 : T.length + 1 + (0 + 1 + 1 + 1 + 1) ≤ 9223372036854775807 := by omega
  have n5 : T.length + (0 + 1 + 1 + 1 + 1) + 1 + (0 + 1) ≤ 9223372036854775807 := by omega
  have n6 : T.length + (0 + 1 + 1 + 1 + 1) + (0 + 1) + 1 + (0 + 1) ≤ 9223372036854775807 := by omega
  by_cases k1 : c = 34
  ·have c1 := u8_t (n := 34) k1 rfl
   have e : T ++ escB c = T ++ [92] ++ [c] := by unfold escB; rw [if_pos (.inl k1)]; simp
   rw [e] at next
   refine w_r (j_ f1 (j_ hc (j_ @byteD.eq_1 (j_ c1 (j_ w1 (j_ q1 (j_ e1 (j_ n1 n3)))))))) ?_
   exact next (ex_st _ _ _ rfl)
  have c1 := u8_f (n := 34) k1 rfl
  by_cases k2 : c = 92
  ·have c2 := u8_t (n := 92) k2 rfl
   have e : T ++ escB c = T ++ [92] ++ [c] := by unfold escB; rw [if_pos (.inr k2)]; simp
   rw [e] at next
   refine w_r (j_ f1 (j_ hc (j_ @byteD.eq_1 (j_ c1 (j_ c2 (j_ w1 (j_ q1 (j_ e1 (j_ n1 n3))))))))) ?_
   exact next (ex_st _ _ _ rfl)
  have c2 := u8_f (n := 92) k2 rfl
  have hne : ¬ (c = 34 ∨ c = 92) := fun h => h.elim k1 k2
  by_cases k3 : c = 8
  ·have c3 := u8_t (n := 8) k3 rfl
   have e : T ++ escB c = T ++ [92,98] := by unfold escB; rw [if_neg hne,if_pos k3]
   rw [e] at next
   refine w_r (j_ f1 (j_ hc (j_ @byteD.eq_1 (j_ c1 (j_ c2 (j_ c3 (j_ w1 (j_ q1 (j_ e1 n2))))))))) ?_
   exact next (ex_st _ _ _ rfl)
  have c3 := u8_f (n := 8) k3 rfl
  by_cases k4 : c = 9
  ·have c4 := u8_t (n := 9) k4 rfl
   have e : T ++ escB c = T ++ [92,116] := by unfold escB; rw [if_neg hne,if_neg k3,if_pos k4]
   rw [e] at next
   refine w_r (j_ f1 (j_ hc (j_ @byteD.eq_1 (j_ c1 (j_ c2 (j_ c3 (j_ c4 (j_ w1 (j_ q1 (j_ e1 n2)))))))))) ?_
   exact next (ex_st _ _ _ rfl)
  have c4 := u8_f (n := 9) k4 rfl
  by_cases k5 : c = 10
  ·have c5 := u8_t (n := 10) k5 rfl
   have e : T ++ escB c = T ++ [92,110] := by unfold escB; rw [if_neg hne,if_neg k3,if_neg k4,if_pos k5]
   rw [e] at next
   refine w_r (j_ f1 (j_ hc (j_ @byteD.eq_1 (j_ c1 (j_ c2 (j_ c3 (j_ c4 (j_ c5 (j_ w1 (j_ q1 (j_ e1 n2))))))))))) ?_
   exact next (ex_st _ _ _ rfl)
  have c5 := u8_f (n := 10) k5 rfl
  by_cases k6 : c = 12
  ·have c6 := u8_t (n := 12) k6 rfl
   have e : T ++ escB c = T ++ [92,102] := by unfold escB; rw [if_neg hne,if_neg k3,if_neg k4,if_neg k5,if_pos k6]
   rw [e] at next
   refine w_r (j_ f1 (j_ hc (j_ @byteD.eq_1 (j_ c1 (j_ c2 (j_ c3 (j_ c4 (j_ c5 (j_ c6 (j_ w1 (j_ q1 (j_ e1 n2)))))))))))) ?_
   exact next (ex_st _ _ _ rfl)
  have c6 := u8_f (n := 12) k6 rfl
  by_cases k7 : c = 13
  ·have c7 := u8_t (n := 13) k7 rfl
   have e : T ++ escB c = T ++ [92,114] := by unfold escB; rw [if_neg hne,if_neg k3,if_neg k4,if_neg k5,if_neg k6,if_pos k7]
   rw [e] at next
   refine w_r (j_ f1 (j_ hc (j_ @byteD.eq_1 (j_ c1 (j_ c2 (j_ c3 (j_ c4 (j_ c5 (j_ c6 (j_ c7 (j_ w1 (j_ q1 (j_ e1 n2))))))))))))) ?_
   exact next (ex_st _ _ _ rfl)
  have c7 := u8_f (n := 13) k7 rfl
  by_cases k8 : c.toNat < 32
  ·have c8 : ((c.toNat : Int) < 32) = True := eq_true (by omega)
   have e : T ++ escB c = T ++ [92,117,48,48] ++ [hexC (c.toNat / 16)] ++ [hexC (c.toNat % 16)] := by unfold escB; rw [if_neg hne,if_neg k3,if_neg k4,if_neg k5,if_neg k6,if_neg k7,if_pos k8]; simp
   rw [e] at next
   have p1 := quo16 c.toNat hcl
   have p2 := rem16 c.toNat
   have p3 : IntKind.u8.wrap (((c.toNat / 16 : Nat) : Int) + 1) = ((c.toNat / 16 + 1 : Nat) : Int) := u8w (c.toNat / 16 + 1) (by omega)
   have p4 : IntKind.u8.wrap (((c.toNat % 16 : Nat) : Int) + 1) = ((c.toNat % 16 + 1 : Nat) : Int) := u8w (c.toNat % 16 + 1) (by omega)
   have p5 : (((c.toNat / 16 : Nat) : Int) ≤ ((c.toNat / 16 + 1 : Nat) : Int)) = True := eq_true (by omega)
   have p9 : (((c.toNat / 16 + 1 : Nat) : Int) ≤ 16) = True := eq_true (by omega)
   have p6 : (((c.toNat % 16 : Nat) : Int) ≤ ((c.toNat % 16 + 1 : Nat) : Int)) = True := eq_true (by omega)
   have p10 : (((c.toNat % 16 + 1 : Nat) : Int) ≤ 16) = True := eq_true (by omega)
   have p7 : List.drop (c.toNat / 16) (48 :: List.take (c.toNat / 16) ([49,50,51,52,53,54,55,56,57,97,98,99,100,101,102] : Tx)) = [hexC (c.toNat / 16)] := hex_piece ⟨c.toNat / 16,by omega⟩
   have p8 : List.drop (c.toNat % 16) (48 :: List.take (c.toNat % 16) ([49,50,51,52,53,54,55,56,57,97,98,99,100,101,102] : Tx)) = [hexC (c.toNat % 16)] := hex_piece ⟨c.toNat % 16,by omega⟩
   refine w_r (j_ f1 (j_ hc (j_ @byteD.eq_1 (j_ c1 (j_ c2 (j_ c3 (j_ c4 (j_ c5 (j_ c6 (j_ c7 (j_ c8 (j_ w1 (j_ q1 (j_ e1 (j_ n4 (j_ n5 (j_ n6 (j_ p1 (j_ p2 (j_ p3 (j_ p4 (j_ p5 (j_ p6 (j_ p7 (j_ p8 (j_ p9 p10)))))))))))))))))))))))))) ?_
   exact next (ex_st _ _ _ rfl)
  have c8 : ((c.toNat : Int) < 32) = False := eq_false (by omega)
  have e : T ++ escB c = T ++ [c] := by unfold escB; rw [if_neg hne,if_neg k3,if_neg k4,if_neg k5,if_neg k6,if_neg k7,if_neg k8]
  rw [e] at next
  refine w_r (j_ f1 (j_ hc (j_ @byteD.eq_1 (j_ c1 (j_ c2 (j_ c3 (j_ c4 (j_ c5 (j_ c6 (j_ c7 (j_ c8 (j_ w1 (j_ q1 (j_ e1 n1)))))))))))))) ?_
  exact next (ex_st _ _ _ rfl)
 ·obtain rfl : i = s.length := by omega
  have f1 : ((s.length : Int) < (s.length : Int)) = False := eq_false (by omega)
  rw [List.take_length] at hfl ⊢
  have n1 : (s.flatMap escB).length + 1 + (0 + 1) ≤ 9223372036854775807 := by omega
  unfold quoteB
  generalize s.flatMap escB = T at *
  refine w_r (j_ f1 n1) ?_
  exact ans_cut rfl rfl ⟨rfl,rfl⟩
end Go.Proofs.YtmhmjlfajlpabaaDoor
namespace Go.Proofs.YtmhmjlfajlpabaaDoor
open Go Go.Abs
def TxtOK : Nat → J → Prop
 | 0,_ => False
 | n + 1,j => (j.k = 2 → -9007199254740991 ≤ j.n ∧ j.n ≤ 9007199254740991) ∧ (j.k = 5 → j.ks.length = j.l.length) ∧ ∀ y ∈ j.l,TxtOK n y
theorem good_txt : ∀ {n : Nat} {j : J},goodB n j = true → TxtOK n (orderJ j)
 | 0,_,h => by cases h
 | n + 1,j,h => by
  obtain ⟨hs,ha⟩ := Bool.and_eq_true_iff.1 (show (shapedB j && j.l.all (goodB n)) = true from h)
  have hall : ∀ y ∈ j.l,goodB n y = true := fun y hy => List.all_eq_true.1 ha y hy
  rw [orderJ_eq]
  split
  ·rename_i h5
   obtain ⟨hl,hd⟩ := shaped_map hs h5
   refine ⟨fun e => absurd (h5.symm.trans e) (by decide),fun _ => by simp [J.ks,J.l],fun y hy => ?_⟩
   obtain ⟨i,hi,rfl⟩ := List.mem_map.1 (show y ∈ (byKeys j.ks).map fun i => (j.l.map orderJ).getD i J.zero from hy)
   have := byKeys_lt hi
   rw [getD_map orderJ j.l (by omega) J.zero]
   refine good_txt (hall _ ?_)
   simp only [List.getD,List.getElem?_eq_getElem (show i < j.l.length by omega),Option.getD_some]
   exact List.getElem_mem _
  ·rename_i h5
   refine ⟨fun e => shaped_num (j := j) hs e,fun e => absurd e h5,fun y hy => ?_⟩
   obtain ⟨z,hz,rfl⟩ := List.mem_map.1 (show y ∈ j.l.map orderJ from hy)
   exact good_txt (hall z hz)
theorem wts_map_eq : ∀ {l : List J},(∀ y ∈ l,wt (orderJ y) = wt y) → wts (l.map orderJ) = wts l
 | [],_ => rfl
 | a :: l,h => by rw [List.map_cons,wts_cons,wts_cons,h a (by simp),wts_map_eq fun y hy => h y (List.mem_cons_of_mem _ hy)]
theorem wt_mk (k n : Int) (t : Tx) (ks : List Tx) (l : List J) : wt (.mk k n t ks l) = 1 + t.length + (ks.map fun k => k.length + 1).sum + wts l := wt_eq _
theorem wt_order : ∀ {n : Nat} {j : J},OrdOK n j → wt (orderJ j) = wt j
 | 0,_,h => h.elim
 | n + 1,j,⟨h1,h2,_,h4⟩ => by
  have ih : ∀ y ∈ j.l,wt (orderJ y) = wt y := fun y hy => wt_order (h4 y hy)
  rw [orderJ_eq]
  split
  ·rename_i h5
   obtain ⟨hl,hd⟩ := h1 h5
   rw [wt_mk,wt_eq j]
   have e1 : (((byKeys j.ks).map fun i => j.ks.getD i []).map fun k => k.length + 1).sum = (j.ks.map fun k => k.length + 1).sum := by
    rw [List.map_map,perm_sum ((byKeys_perm j.ks).map _),← List.map_map,range_getD]
   have e2 : wts ((byKeys j.ks).map fun i => (j.l.map orderJ).getD i J.zero) = wts j.l := by
    rw [← wts_sum,List.map_map,perm_sum ((byKeys_perm j.ks).map _),← List.map_map,hl,show j.l.length = (j.l.map orderJ).length by simp,range_getD,wts_sum,wts_map_eq ih]
   rw [e1,e2]
  ·rename_i h5
   rw [wt_mk,wt_eq j,h2 h5,wts_map_eq ih]
theorem commas_len : ∀ E : List Tx,(commas E).length ≤ (E.map fun e => e.length + 1).sum
 | [] => Nat.zero_le _
 | [a] => by simp [commas]
 | a :: b :: E => by
  have := commas_len (b :: E)
  show (a ++ 44 :: commas (b :: E)).length ≤ _
  rw [List.length_append,List.length_cons,List.map_cons,List.sum_cons]; omega
theorem enc_sum {n : Nat} : ∀ {l : List J},(∀ y ∈ l,(encJ y).length + 1 ≤ 32 * wt y) → ((l.map encJ).map fun e => e.length + 1).sum ≤ 32 * wts l
 | [],_ => by simp
 | a :: l,h => by
  have h1 := h a (by simp)
  have h2 := enc_sum (n := n) (l := l) fun y hy => h y (List.mem_cons_of_mem _ hy)
  rw [wts_cons]
  simp only [List.map_cons,List.sum_cons] at h2 ⊢; omega
theorem pair_sum : ∀ {ks : List Tx} {l : List J},(∀ y ∈ l,(encJ y).length + 1 ≤ 32 * wt y) → ((List.zipWith pairB ks (l.map encJ)).map fun e => e.length + 1).sum ≤ 32 * wts l + 32 * (ks.map fun k => k.length + 1).sum
 | [],l,_ => by simp
 | _ :: _,[],_ => by simp
 | k :: ks,a :: l,h => by
  have h1 := h a (by simp)
  have h2 := pair_sum (ks := ks) (l := l) fun y hy => h y (List.mem_cons_of_mem _ hy)
  have h3 := quoteB_len k
  rw [wts_cons]
  simp only [List.map_cons,List.zipWith_cons_cons,List.sum_cons,pairB,List.length_append,List.length_cons] at h2 ⊢; omega
theorem enc_le : ∀ {n : Nat} {j : J},TxtOK n j → (encJ j).length + 1 ≤ 32 * wt j
 | 0,_,h => h.elim
 | n + 1,j,⟨h1,h2,h3⟩ => by
  have hall : ∀ y ∈ j.l,(encJ y).length + 1 ≤ 32 * wt y := fun y hy => enc_le (h3 y hy)
  have hw := wt_eq j
  rw [encJ_eq]
  split
  ·split <;> simp <;> omega
  split
  ·rename_i hk
   have := itoa_len (h1 hk).1 (h1 hk).2
   omega
  split
  ·have := quoteB_len j.t; omega
  split
  ·have h4 := commas_len (j.l.map encJ)
   have h5 := enc_sum (n := 0) hall
   simp only [List.length_cons,List.length_append,List.length_nil]; omega
  split
  ·have h4 := commas_len (List.zipWith pairB j.ks (j.l.map encJ))
   have h5 := pair_sum (ks := j.ks) hall
   simp only [List.length_cons,List.length_append,List.length_nil]; omega
  ·simp only [List.length_cons,List.length_nil]; omega
theorem sum_take : ∀ (E : List Tx) (i : Nat),((E.take i).map fun e => e.length + 1).sum ≤ (E.map fun e => e.length + 1).sum
 | [],i => by simp
 | a :: E,0 => by simp
 | a :: E,i + 1 => by
  have := sum_take E i
  simp only [List.take_succ_cons,List.map_cons,List.sum_cons]; omega
theorem commas_take (E : List Tx) (i : Nat) : (commas (E.take i)).length ≤ (E.map fun e => e.length + 1).sum := Nat.le_trans (commas_len _) (sum_take E i)
theorem commas_next {E : List Tx} {i : Nat} {e : Tx} (h : E[i]? = some e) : commas (E.take (i + 1)) = if i = 0 then e else commas (E.take i) ++ 44 :: e := by
 rw [List.take_add_one,h]
 show commas (E.take i ++ [e]) = _
 rw [commas_snoc]
 have hi := (List.getElem?_eq_some_iff.1 h).1
 by_cases h0 : i = 0
 ·subst h0; rw [if_pos rfl,if_pos (by simp)]
 ·rw [if_neg h0,if_neg (fun e => by have := congrArg List.length e; rw [List.length_take,List.length_nil] at this; omega)]
end Go.Proofs.YtmhmjlfajlpabaaDoor
