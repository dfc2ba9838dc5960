/- Part 6. -/
import Derived.Test.YtmhmjlfajlpabaaDoorPartE
import Derived.Test.YtmhmjlfajlpabaaDoorRows
import Derived.Lib.LaidU8T
import Derived.Lib.LaidTab
import Derived.Lib.ItoaNum
import Derived.KernelRfl
import Derived.Lib.FrozenHead2
import Derived.Test.YtmhmjlfajlpabaaDoorChecked
import Derived.Shelf.Strings.Builder1
import Derived.Shelf.RegionOpenPlain
import Derived.Lib.Hide
import Derived.Test.YtmhmjlfajlpabaaDoorProg
import Derived.Shelf.SlSortCmp.NoneTotal
import Derived.WalkKit
import Derived.Deep.QuietTactic
import Derived.BigQuiet
import Derived.Lib.Walk
import Derived.Lib.Strings
import Derived.Lib.Slices
import Derived.Lib.SortBridge
import Derived.Shelf.Strconv.Itoa1
import Derived.Shelf.Strconv.Itoa2
import Derived.Shelf.Small.Bits
import Derived.Lib.ItoaMem
import Derived.Shelf.Unicode.ValidAny
import Derived.Shelf.Unicode.DecodeAny
set_option linter.all false
set_option maxRecDepth 100000
namespace Go.Proofs.YtmhmjlfajlpabaaDoor
open Go Go.Abs Go.Lib
set_option maxHeartbeats 1000000 in
--
theorem text_ev : ∀ (n : Nat) (lim : Nat) (H : AHeap) (j : J),TxtOK n j → wt j ≤ 100000000000 → Ev (envN code primsF) 33 lim [.d j.d] H (.d (.str (encJ j))) H
 | 0,_,_,_,h,_ => h.elim
 | n + 1,lim,H,j,h,hw => by
  refine Fn.ev ?_
  refine Fn_of (pn rfl) rfl (show code 33 = some c33 from rfl) rfl ?_; simp only [List.length_cons,List.length_nil,List.cons_append,List.nil_append,simprocAttr]
  have hle := enc_le h
  have hall : ∀ y ∈ j.l,(encJ y).length + 1 ≤ 32 * wt y := fun y hy => enc_le (h.2.2 y hy)
  have hjd := jd j
  obtain ⟨K,hK⟩ : ∃ K,H ++ [AObj.cells (jC j)] = K := ⟨_,rfl⟩
  have gK : K[H.length]? = some (.cells (jC j)) := by rw [← hK]; exact get_last _ _
  have wl := wt_l j
  have wlw := wt_eq j
  have k1e := eq0 j.k 1
  have k2e := eq0 j.k 2
  have k3e := eq0 j.k 3
  have k4e := eq0 j.k 4
  have k5e := eq0 j.k 5
  rw [encJ_eq]
  (iterate 2 refine w_s (j_ hjd hK) ?_)
  by_cases k1 : j.k = 1
  ·rw [if_pos k1]
   rw [decide_eq_true k1] at k1e
   by_cases n1 : j.n = 1
   ·have f1 : (j.n == 1) = true := by simpa using n1
    rw [if_pos n1]
    refine w_r (j_ gK (j_ k1e f1)) ?_
    exact ans_cut rfl rfl ⟨rfl,rfl⟩
   ·have f1 : (j.n == 1) = false := by simpa using n1
    rw [if_neg n1]
    refine w_r (j_ gK (j_ k1e f1)) ?_
    exact ans_cut rfl rfl ⟨rfl,rfl⟩
  rw [if_neg k1]
  rw [decide_eq_false k1] at k1e
  by_cases k2 : j.k = 2
  ·rw [if_pos k2]
   rw [decide_eq_true k2] at k2e
   have he := Digits_ev H.length K j.n (h.1 k2).1 (h.1 k2).2
   generalize Lib.itoa j.n = T at *
   refine w_r (j_ gK (j_ k1e k2e)) ?_
   refine w_1 he gK ?_
   refine w_r trivial ?_
   exact ans_cut rfl rfl ⟨rfl,rfl⟩
  rw [if_neg k2]
  rw [decide_eq_false k2] at k2e
  by_cases k3 : j.k = 3
  ·rw [if_pos k3]
   rw [decide_eq_true k3] at k3e
   have he := Text_ev H.length K j.t (by have := wt_t j; omega)
   generalize quoteB j.t = T at *
   refine w_r (j_ gK (j_ k1e (j_ k2e k3e))) ?_
   refine w_1 he gK ?_
   refine w_r trivial ?_
   exact ans_cut rfl rfl ⟨rfl,rfl⟩
  rw [if_neg k3]
  rw [decide_eq_false k3] at k3e
  by_cases k4 : j.k = 4
  ·rw [if_pos k4]
   rw [decide_eq_true k4] at k4e
   have hsum := enc_sum (n := 0) hall
   refine w_r (j_ gK (j_ k1e (j_ k2e (j_ k3e k4e)))) ?_
   refine W_lp (fun k st => ∃ i : Nat,i ≤ j.l.length ∧ k = j.l.length - i ∧ ∃ x : Nat → AV,st = ⟨[x 0,x 1,x 2,x 3,x 4,x 5,x 6,x 7,x 8,x 9,x 10,.d (.str []),.ptr H.length 0,x 13,.d (.str (91 :: commas ((j.l.map encJ).take i))),intD i,x 16,x 17,x 18,x 19,x 20],K⟩) ?_ _ _ ⟨0,Nat.zero_le _,rfl,ex_st _ _ _ rfl⟩
   rintro k _ ⟨i,hi,rfl,x,rfl⟩
   have htk := commas_take (j.l.map encJ) i
   by_cases t0 : i < j.l.length
   ·have f1 : ((i : Int) < (j.l.length : Int)) = True := eq_true (by omega)
    have w1 : IntKind.i64.wrap ((i : Int) + 1) = ((i + 1 : Nat) : Int) := wsucc (by omega)
    obtain ⟨y,hy⟩ : ∃ y,j.l[i]? = some y := ⟨_,List.getElem?_eq_getElem t0⟩
    have hyd := jd y
    have hmy := List.mem_of_getElem? hy
    have he := text_ev n H.length K y (h.2.2 y hmy) (by have := wt_mem hmy; omega)
    have hyl := hall y hmy
    have hyw := wt_mem hmy
    have hC : i = 0 → commas ((j.l.map encJ).take i) = [] := fun h => by rw [h]; rfl
    have hnx := commas_next (E := j.l.map encJ) (i := i) (e := encJ y) (by rw [List.getElem?_map,hy]; rfl)
    simp only [hyd] at he
    generalize encJ y = T at *
    generalize commas ((j.l.map encJ).take i) = C at *
    by_cases h0 : i = 0
    ·have f2 : ((i : Int) > 0) = False := eq_false (by omega)
     rw [if_pos h0] at hnx
     obtain rfl := hC h0
     have n1 : 0 + 1 + T.length ≤ 9223372036854775807 := by omega
     refine w_r (j_ gK (j_ f1 (j_ f2 (@List.length_map.{0,0})))) ?_
     refine w_1 he (j_ gK (j_ hy (j_ hyd n1))) ?_
     refine w_r w1 ?_
     exact ⟨j.l.length - (i + 1),by omega,i + 1,t0,rfl,by rw [hnx]; exact ex_st _ _ _ rfl⟩
    ·have f2 : ((i : Int) > 0) = True := eq_true (by omega)
     rw [if_neg h0,show C ++ 44 :: T = C ++ [44] ++ T by simp] at hnx
     have n1 : C.length + 1 + (0 + 1) ≤ 9223372036854775807 := by omega
     have n2 : C.length + (0 + 1) + 1 + T.length ≤ 9223372036854775807 := by omega
     refine w_r (j_ gK (j_ f1 (j_ f2 (j_ n1 (@List.length_map.{0,0}))))) ?_
     refine w_1 he (j_ gK (j_ hy (j_ hyd n2))) ?_
     refine w_r w1 ?_
     exact ⟨j.l.length - (i + 1),by omega,i + 1,t0,rfl,by rw [hnx]; exact ex_st _ _ _ rfl⟩
   ·obtain rfl : i = j.l.length := by omega
    have f1 : ((j.l.length : Int) < (j.l.length : Int)) = False := eq_false (by omega)
    have e1 : (j.l.map encJ).take j.l.length = j.l.map encJ := by rw [List.take_of_length_le (by simp)]
    rw [e1] at htk ⊢
    generalize commas (j.l.map encJ) = C at *
    have n1 : C.length + 1 + (0 + 1) ≤ 9223372036854775807 := by omega
    refine w_r (j_ gK (j_ f1 (j_ n1 (@List.length_map.{0,0})))) ?_
    exact ans_cut rfl rfl ⟨rfl,rfl⟩
  rw [if_neg k4]
  rw [decide_eq_false k4] at k4e
  by_cases k5 : j.k = 5
  ·rw [if_pos k5]
   rw [decide_eq_true k5] at k5e
   have hkl := h.2.1 k5
   have hsum := pair_sum (ks := j.ks) hall
   obtain ⟨E,hE⟩ : ∃ E,List.zipWith pairB j.ks (j.l.map encJ) = E := ⟨_,rfl⟩
   have hEl : E.length = j.l.length := by rw [← hE]; simp; omega
   rw [hE] at hsum ⊢
   refine w_r (j_ gK (j_ k1e (j_ k2e (j_ k3e (j_ k4e k5e))))) ?_
   refine W_lp (fun k st => ∃ i : Nat,i ≤ j.l.length ∧ k = j.l.length - i ∧ ∃ x : Nat → AV,st = ⟨[x 0,x 1,x 2,x 3,x 4,x 5,x 6,x 7,x 8,x 9,x 10,.d (.str []),.ptr H.length 0,x 13,x 14,x 15,.d (.str (123 :: commas (E.take i))),intD i,x 18,x 19,x 20],K⟩) ?_ _ _ ⟨0,Nat.zero_le _,rfl,ex_st _ _ _ rfl⟩
   rintro k _ ⟨i,hi,rfl,x,rfl⟩
   have htk := commas_take E i
   by_cases t0 : i < j.l.length
   ·have f1 : ((i : Int) < (j.l.length : Int)) = True := eq_true (by omega)
    have w1 : IntKind.i64.wrap ((i : Int) + 1) = ((i + 1 : Nat) : Int) := wsucc (by omega)
    obtain ⟨y,hy⟩ : ∃ y,j.l[i]? = some y := ⟨_,List.getElem?_eq_getElem t0⟩
    obtain ⟨s,hs⟩ : ∃ s,j.ks[i]? = some s := ⟨_,List.getElem?_eq_getElem (by omega)⟩
    have hyd := jd y
    have hmy := List.mem_of_getElem? hy
    have hsl := wt_key (List.mem_of_getElem? hs)
    have he := text_ev n H.length K y (h.2.2 y hmy) (by have := wt_mem hmy; omega)
    have hk := Text_ev H.length K s (by omega)
    have hql := quoteB_len s
    have hc : (D.str s).cells = [D.str s] := rfl
    have hyl := hall y hmy
    have hyw := wt_mem hmy
    have hC : i = 0 → commas (E.take i) = [] := fun h => by rw [h]; rfl
    have hnx := commas_next (E := E) (i := i) (e := pairB s (encJ y)) (by rw [← hE,List.getElem?_zipWith,hs,List.getElem?_map,hy]; rfl)
    simp only [hyd] at he
    unfold pairB at hnx
    generalize encJ y = T at *
    generalize quoteB s = U at *
    generalize commas (E.take i) = C at *
    by_cases h0 : i = 0
    ·have f2 : ((i : Int) > 0) = False := eq_false (by omega)
     rw [if_pos h0,show U ++ 58 :: T = U ++ [58] ++ T by simp] at hnx
     obtain rfl := hC h0
     have n1 : 0 + 1 + U.length ≤ 9223372036854775807 := by omega
     have n2 : U.length + 1 + (0 + 1) ≤ 9223372036854775807 := by omega
     have n3 : U.length + (0 + 1) + 1 + T.length ≤ 9223372036854775807 := by omega
     refine w_r (j_ gK (j_ f1 (j_ f2 (@List.length_map.{0,0})))) ?_
     refine w_2 hk he (j_ gK (j_ hy (j_ hyd (j_ hs (j_ hc (j_ n1 (j_ n2 n3))))))) ?_
     refine w_r w1 ?_
     exact ⟨j.l.length - (i + 1),by omega,i + 1,t0,rfl,by rw [hnx]; exact ex_st _ _ _ rfl⟩
    ·have f2 : ((i : Int) > 0) = True := eq_true (by omega)
     rw [if_neg h0,show C ++ 44 :: (U ++ 58 :: T) = C ++ [44] ++ U ++ [58] ++ T by simp] at hnx
     have n1 : C.length + 1 + (0 + 1) ≤ 9223372036854775807 := by omega
     have n2 : C.length + (0 + 1) + 1 + U.length ≤ 9223372036854775807 := by omega
     have n3 : C.length + (0 + 1) + U.length + 1 + (0 + 1) ≤ 9223372036854775807 := by omega
     have n4 : C.length + (0 + 1) + U.length + (0 + 1) + 1 + T.length ≤ 9223372036854775807 := by omega
     refine w_r (j_ gK (j_ f1 (j_ f2 (j_ n1 (@List.length_map.{0,0}))))) ?_
     refine w_2 hk he (j_ gK (j_ hy (j_ hyd (j_ hs (j_ hc (j_ n2 (j_ n3 n4))))))) ?_
     refine w_r w1 ?_
     exact ⟨j.l.length - (i + 1),by omega,i + 1,t0,rfl,by rw [hnx]; exact ex_st _ _ _ rfl⟩
   ·obtain rfl : i = j.l.length := by omega
    have f1 : ((j.l.length : Int) < (j.l.length : Int)) = False := eq_false (by omega)
    have e1 : E.take j.l.length = E := by rw [List.take_of_length_le (by omega)]
    rw [e1] at htk ⊢
    generalize commas E = C at *
    have n1 : C.length + 1 + (0 + 1) ≤ 9223372036854775807 := by omega
    refine w_r (j_ gK (j_ f1 (j_ n1 (@List.length_map.{0,0})))) ?_
    exact ans_cut rfl rfl ⟨rfl,rfl⟩
  rw [if_neg k5]
  rw [decide_eq_false k5] at k5e
  refine w_r (j_ gK (j_ k1e (j_ k2e (j_ k3e (j_ k4e k5e))))) ?_
  exact ans_cut rfl rfl ⟨rfl,rfl⟩
def doneR (n : Nat) (Q : List Nat) : List AV := (List.range n).map fun p => boolD (Q.contains p)
theorem doneR_len (n : Nat) (Q : List Nat) : (doneR n Q).length = n := by simp [doneR]
theorem doneR_get {n p : Nat} (h : p < n) (Q : List Nat) : (doneR n Q)[p]? = some (boolD (Q.contains p)) := by
 unfold doneR; rw [List.getElem?_map,List.getElem?_range h]; rfl
theorem doneR_zero (n : Nat) : (List.replicate n [boolD false]).flatten = doneR n [] := by
 apply List.ext_getElem
 ·simp [doneR,List.length_flatten]
 ·intro i h1 h2
  simp [doneR]
theorem doneR_set {n p : Nat} (h : p < n) (Q : List Nat) : splice (doneR n Q) p [boolD true] = doneR n (Q ++ [p]) := by
 unfold splice
 apply List.ext_getElem?
 intro q
 have hl : ((doneR n Q).take p).length = p := by simp [doneR]; omega
 by_cases h1 : q < p
 ·rw [List.getElem?_append_left (by omega),List.getElem?_take,if_pos h1,doneR_get (by omega),doneR_get (by omega)]
  simp [show q ≠ p by omega]
 ·rw [List.getElem?_append_right (by omega),hl]
  by_cases h2 : q = p
  ·subst h2
   rw [doneR_get h]
   simp
  ·rw [List.getElem?_append_right (by simp; omega),List.getElem?_drop,show p + [boolD true].length + (q - p - [boolD true].length) = q by simp; omega]
   by_cases h3 : q < n
   ·rw [doneR_get h3,doneR_get h3]
    simp [h2]
   ·rw [List.getElem?_eq_none (by rw [doneR_len]; omega),List.getElem?_eq_none (by rw [doneR_len]; omega)]
theorem least_is {ks : List Tx} (hd : ks.Nodup) {i p0 : Nat} (hi : i < ks.length) (h1 : p0 < ks.length) (h2 : p0 ∉ (byKeys ks).take i) (h3 : ∀ p,p < ks.length → p ∉ (byKeys ks).take i → ¬ keyAt ks p < keyAt ks p0) : (byKeys ks)[i]? = some p0 := by
 have hl := byKeys_length ks
 have hg := byKeys_grow hd
 have hn := byKeys_nodup ks
 obtain ⟨i',hi',e⟩ := List.getElem_of_mem (byKeys_mem.2 h1)
 have hge : i ≤ i' := by
  rcases Nat.lt_or_ge i' i with h | h
  ·refine absurd ?_ h2
   rw [← e]
   exact List.mem_take_iff_getElem.2 ⟨i',by omega,rfl⟩
  ·exact h
 rcases Nat.lt_or_ge i i' with h | h
 ·exfalso
  rw [List.pairwise_iff_getElem] at hg
  have hlt := hg i i' (by omega) hi' h
  rw [e] at hlt
  refine h3 _ (byKeys_lt (List.getElem_mem (by omega))) (fun hm => ?_) hlt
  obtain ⟨q,hq,eq⟩ := List.mem_take_iff_getElem.1 hm
  have := (List.getElem?_inj (i := q) (j := i) (by omega) hn).1 (by rw [List.getElem?_eq_getElem (by omega : q < (byKeys ks).length),List.getElem?_eq_getElem (by omega : i < (byKeys ks).length),eq])
  omega
 ·obtain rfl : i = i' := by omega
  rw [List.getElem?_eq_getElem hi',e]
theorem lt_key (a b : Tx) : bytesLt a b = decide (a < b) := by rw [bytesLt_eq,bless]
def Least (ks : List Tx) (Q : List Nat) (q : Nat) (m : Int) : Prop :=
 (m = -1 ∧ ∀ p,p < q → p ∈ Q) ∨ ∃ p0 : Nat,m = p0 ∧ p0 < q ∧ p0 ∉ Q ∧ ∀ p,p < q → p ∉ Q → ¬ keyAt ks p < keyAt ks p0
theorem getD_of {α : Type} {l : List α} {i : Nat} {x d : α} (h : l[i]? = some x) : l.getD i d = x := by simp [List.getD,h]
set_option maxHeartbeats 2000000 in
--
theorem refOrder_ev : ∀ (n : Nat) (lim : Nat) (H : AHeap) (j : J),OrdOK n j → wt j ≤ 100000000000 → Ev (envN code primsF) 30 lim [.d j.d] H (.d (orderJ j).d) H
 | 0,_,_,_,h,_ => h.elim
 | n + 1,lim,H,j,⟨hm,hks,hls,hy⟩,hwt => by
  have hk := wt_ks j
  have hl := wt_l j
  have hyw : ∀ y ∈ j.l,wt y ≤ 100000000000 := fun y hy => by have := wt_mem hy; omega
  refine Fn.ev ?_
  refine Fn_of (pn rfl) rfl (show code 30 = some c30 from rfl) rfl ?_; simp only [List.length_cons,List.length_nil,List.cons_append,List.nil_append,simprocAttr]
  obtain ⟨K,kk,k0,k1,k2,k3,k4⟩ := trey H (.cells (jC j))
  obtain ⟨F,ff,z0,z1,z2,z3,_,s1,s2,s3⟩ := four H
  have kf : ∀ a b c,K a b ++ [c] = F (.cells (jC j)) a b c := fun a b c => by rw [kk,ff]; simp
  have kl : ∀ a b,(K a b).length = H.length + 3 := fun a b => by rw [kk]; simp
  have hjd := jd j
  have a1 : (H ++ [AObj.cells (jC j)]).length = H.length + 1 := by simp
  have a2 : ∀ o,(H ++ [AObj.cells (jC j)] ++ [o]).length = H.length + 2 := fun o => by simp
  have a3 : ∀ o o',(H ++ [AObj.cells (jC j)] ++ [o] ++ [o']) = K o o' := fun o o' => by rw [kk]; simp
  have a4 : ∀ o,(H ++ [AObj.cells (jC j)] ++ [o])[H.length]? = some (.cells (jC j)) := fun o => by simp
  have hll1 : H.length ≤ H.length + 1 := by omega
  have hll2 : H.length ≤ H.length + 2 := by omega
  have hll3 : H.length ≤ H.length + 3 := by omega
  rw [orderJ_eq]
  (iterate 4 refine w_s (j_ hjd (j_ a1 (j_ a2 (j_ a3 (j_ a4 (j_ k0 (j_ k1 (j_ k2 (j_ k3 (j_ k4 hll2)))))))))) ?_)
  have e0 := doneR_zero j.ks.length
  have c1 : ((j.ks.length : Int) ≤ 281474976710656) = True := eq_true (by omega)
  have c2 : ((j.ks.length : Int) * 1 ≤ 281474976710656) = True := eq_true (by omega)
  by_cases h5 : j.k = 5
  ·rw [if_pos h5]
   have c5 : (j.k == 4) = false := by rw [h5]; rfl
   obtain ⟨hkl,hnd⟩ := hm h5
   obtain ⟨P,hP⟩ : ∃ P,byKeys j.ks = P := ⟨_,rfl⟩
   have hPl := byKeys_length j.ks
   have hPm : ∀ i ∈ P,i < j.ks.length := fun i hi => byKeys_lt (hP ▸ hi)
   rw [hP] at hPl
   rw [hP]
   refine w_r (j_ k0 (j_ c5 (j_ c1 (j_ c2 (j_ e0 (j_ kf (j_ kl (@List.length_map.{0,0})))))))) ?_
   refine W_lp (fun k st => ∃ i : Nat,i ≤ j.ks.length ∧ k = j.ks.length - i ∧ ∃ x : Nat → AV,st = ⟨[x 0,x 1,x 2,x 3,x 4,x 5,.ptr (H.length + 1) 0,.ptr H.length 0,.ptr (H.length + 2) 0,x 9,.oslice (H.length + 3) 0 j.ks.length j.ks.length 1,intD i,x 12,x 13,x 14,x 15,x 16,x 17,x 18],F (.cells (jC j)) (outO 0 0 [] [] []) (outO j.k j.n j.t ((P.take i).map fun i => j.ks.getD i []) ((P.take i).map fun i => (j.l.map orderJ).getD i J.zero)) (.cells (doneR j.ks.length (P.take i)))⟩) ?_ _ _ ⟨0,Nat.zero_le _,rfl,ex_st _ _ _ rfl⟩
   rintro k _ ⟨i,hi,rfl,x,rfl⟩
   by_cases t0 : i < j.ks.length
   ·have f1 : ((i : Int) < (j.ks.length : Int)) = True := eq_true (by omega)
    have w1 : IntKind.i64.wrap ((i : Int) + 1) = ((i + 1 : Nat) : Int) := wsucc (by omega)
    generalize hA : ((P.take i).map fun i => j.ks.getD i []) = A
    generalize hB : ((P.take i).map fun i => (j.l.map orderJ).getD i J.zero) = B
    refine w_r (j_ z0 (j_ f1 (@List.length_map.{0,0}))) ?_
    refine W_lp (fun k st => ∃ (q : Nat) (m : Int),q ≤ j.ks.length ∧ k = j.ks.length - q ∧ Least j.ks (P.take i) q m ∧ ∃ x : Nat → AV,st = ⟨[x 0,x 1,x 2,x 3,x 4,x 5,.ptr (H.length + 1) 0,.ptr H.length 0,.ptr (H.length + 2) 0,x 9,.oslice (H.length + 3) 0 j.ks.length j.ks.length 1,intD i,intD m,intD q,x 14,x 15,x 16,x 17,x 18],F (.cells (jC j)) (outO 0 0 [] [] []) (outO j.k j.n j.t A B) (.cells (doneR j.ks.length (P.take i)))⟩) ?_ _ _ ⟨0,-1,Nat.zero_le _,rfl,.inl ⟨rfl,fun p hp => by omega⟩,ex_st _ _ _ rfl⟩
    rintro k _ ⟨q,m,hq,rfl,hle,x,rfl⟩
    by_cases t1 : q < j.ks.length
    ·have f2 : ((q : Int) < (j.ks.length : Int)) = True := eq_true (by omega)
     have w2 : IntKind.i64.wrap ((q : Int) + 1) = ((q + 1 : Nat) : Int) := wsucc (by omega)
     have hdq := doneR_get t1 (P.take i)
     obtain ⟨s,hs⟩ : ∃ s,j.ks[q]? = some s := ⟨_,List.getElem?_eq_getElem t1⟩
     have hc : ∀ s : Tx,(D.str s).cells = [D.str s] := fun _ => rfl
     have next : ∀ {st : St} (m' : Int),Least j.ks (P.take i) (q + 1) m' → (∃ x : Nat → AV,st = ⟨[x 0,x 1,x 2,x 3,x 4,x 5,.ptr (H.length + 1) 0,.ptr H.length 0,.ptr (H.length + 2) 0,x 9,.oslice (H.length + 3) 0 j.ks.length j.ks.length 1,intD i,intD m',intD ((q + 1 : Nat) : Int),x 14,x 15,x 16,x 17,x 18],F (.cells (jC j)) (outO 0 0 [] [] []) (outO j.k j.n j.t A B) (.cells (doneR j.ks.length (P.take i)))⟩) →
       ∃ k',k' < j.ks.length - q ∧ ∃ (q : Nat) (m : Int),q ≤ j.ks.length ∧ k' = j.ks.length - q ∧ Least j.ks (P.take i) q m ∧ ∃ x : Nat → AV,st = ⟨[x 0,x 1,x 2,x 3,x 4,x 5,.ptr (H.length + 1) 0,.ptr H.length 0,.ptr (H.length + 2) 0,x 9,.oslice (H.length + 3) 0 j.ks.length j.ks.length 1,intD i,intD m,intD q,x 14,x 15,x 16,x 17,x 18],F (.cells (jC j)) (outO 0 0 [] [] []) (outO j.k j.n j.t A B) (.cells (doneR j.ks.length (P.take i)))⟩ :=
      fun m' h1 h2 => ⟨j.ks.length - (q + 1),by omega,q + 1,m',t1,rfl,h1,h2⟩
     cases hb : (P.take i).contains q with
     | true =>
      rw [hb] at hdq
      have hmem : q ∈ P.take i := by simpa using hb
      have hL : Least j.ks (P.take i) (q + 1) m := by
       rcases hle with ⟨rfl,h⟩ | ⟨p0,rfl,h1,h2,h3⟩
       ·exact .inl ⟨rfl,fun p hp => by
         rcases Nat.lt_or_ge p q with h' | h'
         ·exact h p h'
         ·obtain rfl : p = q := by omega
          exact hmem⟩
       ·exact .inr ⟨p0,rfl,by omega,h2,fun p hp hn => by
         rcases Nat.lt_or_ge p q with h' | h'
         ·exact h3 p h' hn
         ·obtain rfl : p = q := by omega
          exact absurd hmem hn⟩
      generalize doneR j.ks.length (P.take i) = R at *
      refine w_r (j_ z0 (j_ z3 (j_ f2 (j_ w2 (j_ hdq (j_ @Nat.mul_one (@List.length_map.{0,0}))))))) ?_
      exact next m hL (ex_st _ _ _ rfl)
     | false =>
      rw [hb] at hdq
      have hnm : q ∉ P.take i := by simpa using hb
      rcases hle with ⟨rfl,h⟩ | ⟨p0,rfl,h1,h2,h3⟩
      ·have hL : Least j.ks (P.take i) (q + 1) (q : Nat) := .inr ⟨q,rfl,by omega,hnm,fun p hp hn => by
        rcases Nat.lt_or_ge p q with h' | h'
        ·exact absurd (h p h') hn
        ·obtain rfl : p = q := by omega
         exact List.lt_irrefl _⟩
       have f3 : ((-1 : Int) < 0) = True := eq_true (by decide)
       generalize doneR j.ks.length (P.take i) = R at *
       refine w_r (j_ z0 (j_ z3 (j_ f2 (j_ f3 (j_ w2 (j_ hdq (j_ @Nat.mul_one (@List.length_map.{0,0})))))))) ?_
       exact next _ hL (ex_st _ _ _ rfl)
      ·have f3 : ((p0 : Int) < 0) = False := eq_false (by omega)
       obtain ⟨t,ht⟩ : ∃ t,j.ks[p0]? = some t := ⟨_,List.getElem?_eq_getElem (by omega)⟩
       have ks1 : keyAt j.ks q = s := getD_of hs
       have ks2 : keyAt j.ks p0 = t := getD_of ht
       have hlt := lt_key s t
       by_cases hst : s < t
       ·rw [decide_eq_true hst] at hlt
        have hL : Least j.ks (P.take i) (q + 1) (q : Nat) := .inr ⟨q,rfl,by omega,hnm,fun p hp hn => by
         rcases Nat.lt_or_ge p q with h' | h'
         ·have := h3 p h' hn
          rw [ks1]; rw [ks2] at this
          exact fun h4 => this (List.lt_trans h4 hst)
         ·obtain rfl : p = q := by omega
          exact List.lt_irrefl _⟩
        generalize doneR j.ks.length (P.take i) = R at *
        refine w_r (j_ z0 (j_ z3 (j_ f2 (j_ f3 (j_ w2 (j_ hs (j_ ht (j_ hc (j_ hlt (j_ hdq (j_ @Nat.mul_one (@List.length_map.{0,0})))))))))))) ?_
        exact next _ hL (ex_st _ _ _ rfl)
       ·rw [decide_eq_false hst] at hlt
        have hL : Least j.ks (P.take i) (q + 1) (p0 : Nat) := .inr ⟨p0,rfl,by omega,h2,fun p hp hn => by
         rcases Nat.lt_or_ge p q with h' | h'
         ·exact h3 p h' hn
         ·obtain rfl : p = q := by omega
          rw [ks1,ks2]; exact hst⟩
        generalize doneR j.ks.length (P.take i) = R at *
        refine w_r (j_ z0 (j_ z3 (j_ f2 (j_ f3 (j_ w2 (j_ hs (j_ ht (j_ hc (j_ hlt (j_ hdq (j_ @Nat.mul_one (@List.length_map.{0,0})))))))))))) ?_
        exact next _ hL (ex_st _ _ _ rfl)
    ·obtain rfl : q = j.ks.length := by omega
     have f2 : ((j.ks.length : Int) < (j.ks.length : Int)) = False := eq_false (by omega)
     have hPi : P[i]? = some P[i] := List.getElem?_eq_getElem (by omega)
     have hPlt := hPm P[i] (List.getElem_mem _)
     have hnot : P[i] ∉ P.take i := fun hmem => by
      obtain ⟨q,hq,eq⟩ := List.mem_take_iff_getElem.1 hmem
      have hn := byKeys_nodup j.ks
      rw [hP] at hn
      have := (List.getElem?_inj (i := q) (j := i) (by omega) hn).1 (by rw [List.getElem?_eq_getElem (by omega : q < P.length),hPi,eq])
      omega
     obtain ⟨p,rfl,hpn,hpm,hpl⟩ : ∃ p : Nat,m = p ∧ p < j.ks.length ∧ p ∉ P.take i ∧ ∀ p',p' < j.ks.length → p' ∉ P.take i → ¬ keyAt j.ks p' < keyAt j.ks p := by
      rcases hle with ⟨rfl,h⟩ | h
      ·exact absurd (h _ hPlt) hnot
      ·exact h
     have hp : P[i]? = some p := by rw [← hP]; exact least_is hnd t0 hpn (by rw [hP]; exact hpm) (by rw [hP]; exact hpl)
     have g0 : ((p : Int) < (j.ks.length : Int)) = True := eq_true (by omega)
     have hpn1 : p + 1 ≤ j.ks.length := hpn
     have hset := doneR_set hpn (P.take i)
     have hext : P.take i ++ [p] = P.take (i + 1) := by rw [List.take_add_one,hp]; rfl
     rw [hext] at hset
     simp only [splice,List.length_cons,List.length_nil,Nat.zero_add,List.cons_append,List.nil_append] at hset
     have hdl := doneR_len j.ks.length (P.take i)
     obtain ⟨s,hs⟩ : ∃ s,j.ks[p]? = some s := ⟨_,List.getElem?_eq_getElem hpn⟩
     obtain ⟨y,hy'⟩ : ∃ y,j.l[p]? = some y := ⟨_,List.getElem?_eq_getElem (by omega)⟩
     have hyd := jd y
     have hod := jd (orderJ y)
     have e1 := map_succ (fun i => j.ks.getD i []) hp
     have e2 := map_succ (fun i => (j.l.map orderJ).getD i J.zero) hp
     have g1 : j.ks.getD p [] = s := by simp [List.getD,hs]
     have g2 : (j.l.map orderJ).getD p J.zero = orderJ y := by simp [List.getD,hy']
     rw [g1,hA] at e1
     rw [g2,hB] at e2
     have ho := fun M => refOrder_ev n H.length M y (hy y (List.mem_of_getElem? hy')) (hyw y (List.mem_of_getElem? hy'))
     simp only [hyd,hod] at ho
     have n1 : A.length = i := by rw [← hA]; simp; omega
     have n2 : B.length = i := by rw [← hB]; simp; omega
     have m1 : A.map D.str ++ [D.str s] = (A ++ [s]).map D.str := by simp
     have m2 : B.map J.d ++ [D.agg [.int .i64 (orderJ y).k,.int .i64 (orderJ y).n,.str (orderJ y).t,sD (orderJ y).ks,jsD (orderJ y).l]] = (B ++ [orderJ y]).map J.d := by simp [hod]
     have q1 := headS A
     have q2 := headJ B
     have b1 : (i + 1) * 17 ≤ 70368744177664 := by omega
     have b2 : (i + 1) * 85 ≤ 70368744177664 := by omega
     have hc : ∀ s : Tx,(D.str s).cells = [D.str s] := fun _ => rfl
     refine w_r (j_ z0 (j_ z3 (j_ s3 (j_ f2 (j_ g0 (j_ hpn1 (j_ hdl (j_ hset (j_ hll3 (j_ @Nat.mul_one (@List.length_map.{0,0}))))))))))) ?_
     generalize hR : doneR j.ks.length (P.take (i + 1)) = R at *
     (apply W_rg; focus (intro k; simp (maxSteps := 100000000) only [zz,zd,simprocAttr,z0,z2,s2,hs,hc,q1,n1,b1,m1,e1,List.length_map,hll2]; (first | done | with_reducible exact rfl))) <;> (try simp only [zp,simprocAttr])
     obtain ⟨A',hA'⟩ : ∃ A',((P.take (i + 1)).map fun i => j.ks.getD i []) = A' := ⟨_,rfl⟩
     rw [hA']
     refine w_2 ((ho (F (.cells (jC j)) (outO 0 0 [] [] []) (outO j.k j.n j.t A' B) (.cells R)))) ((ho (F (.cells (jC j)) (outO 0 0 [] [] []) (outT j.k j.n j.t A' B) (.cells R)))) (j_ z0 (j_ z2 (j_ s2 (j_ hy' (j_ hyd (j_ q2 (j_ n2 (j_ b2 (j_ m2 (j_ e2 (j_ (@List.length_map.{0,0}) hll2))))))))))) ?_
     refine w_r w1 ?_
     exact ⟨j.ks.length - (i + 1),by omega,i + 1,t0,rfl,ex_stH (by first | rw [hA',e2,hR] | rw [hA',hR]) rfl⟩
   ·obtain rfl : i = j.ks.length := by omega
    have f1 : ((j.ks.length : Int) < (j.ks.length : Int)) = False := eq_false (by omega)
    have e3 : P.take j.ks.length = P := by rw [← hPl,List.take_length]
    rw [e3]
    refine w_r (j_ z0 (j_ f1 (j_ z1 (j_ z2 (j_ s1 (j_ hll1 (@List.length_map.{0,0}))))))) ?_
    refine ans_cut (vs := [.d (.agg [.int .i64 j.k,.int .i64 j.n,.str j.t,sD (P.map fun i => j.ks.getD i []),jsD (P.map fun i => (j.l.map orderJ).getD i J.zero)])]) ?_ rfl ⟨by rw [jd]; rfl,rfl⟩
    simp only [resV,zz,simprocAttr,z1]
  ·rw [if_neg h5]
   have hk0 := hks h5
   by_cases h4 : j.k = 4
   ·have c4 : (j.k == 4) = true := by simpa using h4
    refine w_r (j_ k0 (j_ c4 (@List.length_map.{0,0}))) ?_
    refine W_lp (fun k st => ∃ i : Nat,i ≤ j.l.length ∧ k = j.l.length - i ∧ ∃ x : Nat → AV,st = ⟨[x 0,x 1,x 2,x 3,x 4,x 5,.ptr (H.length + 1) 0,.ptr H.length 0,.ptr (H.length + 2) 0,intD i,x 10,x 11,x 12,x 13,x 14,x 15,x 16,x 17,x 18],K (outO 0 0 [] [] []) (outL j.k j.n j.t ((j.l.take i).map orderJ))⟩) ?_ _ _ ⟨0,Nat.zero_le _,rfl,ex_st _ _ _ rfl⟩
    rintro k _ ⟨i,hi,rfl,x,rfl⟩
    by_cases t0 : i < j.l.length
    ·have f1 : ((i : Int) < (j.l.length : Int)) = True := eq_true (by omega)
     have w1 : IntKind.i64.wrap ((i : Int) + 1) = ((i + 1 : Nat) : Int) := wsucc (by omega)
     obtain ⟨y,hy'⟩ : ∃ y,j.l[i]? = some y := ⟨_,List.getElem?_eq_getElem t0⟩
     have hyd := jd y
     have hod := jd (orderJ y)
     have e2 := map_succ orderJ hy'
     have ho := fun M => refOrder_ev n H.length M y (hy y (List.mem_of_getElem? hy')) (hyw y (List.mem_of_getElem? hy'))
     simp only [hyd,hod] at ho
     have n2 : ((j.l.take i).map orderJ).length = i := by simp; omega
     generalize (j.l.take i).map orderJ = B at *
     have q2 := headJ B
     have b2 : (i + 1) * 85 ≤ 70368744177664 := by omega
     have m2 : B.map J.d ++ [D.agg [.int .i64 (orderJ y).k,.int .i64 (orderJ y).n,.str (orderJ y).t,sD (orderJ y).ks,jsD (orderJ y).l]] = (B ++ [orderJ y]).map J.d := by simp [hod]
     (iterate 7 refine w_s (j_ f1 (j_ k0 (@List.length_map.{0,0}))) ?_)
     refine w_2 ((ho (K (outO 0 0 [] [] []) (outL j.k j.n j.t B)))) ((ho (K (outO 0 0 [] [] []) (outLT j.k j.n j.t B)))) (j_ k0 (j_ k2 (j_ k4 (j_ hy' (j_ hyd (j_ q2 (j_ n2 (j_ b2 (j_ m2 (j_ (@List.length_map.{0,0}) hll2)))))))))) ?_
     refine w_r w1 ?_
     exact ⟨j.l.length - (i + 1),by omega,i + 1,t0,rfl,ex_stH (by first | rw [← e2] | rfl) rfl⟩
    ·obtain rfl : i = j.l.length := by omega
     have f1 : ((j.l.length : Int) < (j.l.length : Int)) = False := eq_false (by omega)
     have f2 : ((0 : Int) < (j.ks.length : Int)) = False := eq_false (by rw [hk0]; simp)
     rw [List.take_length]
     generalize doneR j.ks.length [] = R at *
     refine w_r (j_ k0 (j_ f1 (j_ c1 (j_ c2 (j_ e0 (j_ kf (j_ kl (j_ z0 (@List.length_map.{0,0}))))))))) ?_
     refine W_lp (fun k st => k = 0 ∧ ∃ x : Nat → AV,st = ⟨[x 0,x 1,x 2,x 3,x 4,x 5,.ptr (H.length + 1) 0,.ptr H.length 0,.ptr (H.length + 2) 0,x 9,x 10,intD 0,x 12,x 13,x 14,x 15,x 16,x 17,x 18],F (.cells (jC j)) (outO 0 0 [] [] []) (outL j.k j.n j.t (j.l.map orderJ)) (.cells R)⟩) ?_ _ _ ⟨rfl,ex_st _ _ _ rfl⟩
     rintro k _ ⟨rfl,x,rfl⟩
     refine w_r (j_ z0 (j_ f2 (j_ z1 (j_ z2 (j_ s1 (j_ hll1 (@List.length_map.{0,0}))))))) ?_
     refine ans_cut (vs := [.d (.agg [.int .i64 j.k,.int .i64 j.n,.str j.t,sD [],jsD (j.l.map orderJ)])]) ?_ rfl ⟨by rw [jd]; rfl,rfl⟩
     simp only [resV,zz,simprocAttr,z1]; rfl
   ·have c4 : (j.k == 4) = false := by simpa using h4
    have hl0 := hls h4 h5
    have f2 : ((0 : Int) < (j.ks.length : Int)) = False := eq_false (by rw [hk0]; simp)
    rw [hl0]
    generalize doneR j.ks.length [] = R at *
    refine w_r (j_ k0 (j_ c4 (j_ c1 (j_ c2 (j_ e0 (j_ kf (j_ kl (@List.length_map.{0,0})))))))) ?_
    refine W_lp (fun k st => k = 0 ∧ ∃ x : Nat → AV,st = ⟨[x 0,x 1,x 2,x 3,x 4,x 5,.ptr (H.length + 1) 0,.ptr H.length 0,.ptr (H.length + 2) 0,x 9,x 10,intD 0,x 12,x 13,x 14,x 15,x 16,x 17,x 18],F (.cells (jC j)) (outO 0 0 [] [] []) (outL j.k j.n j.t []) (.cells R)⟩) ?_ _ _ ⟨rfl,ex_st _ _ _ rfl⟩
    rintro k _ ⟨rfl,x,rfl⟩
    refine w_r (j_ z0 (j_ f2 (j_ z1 (j_ z2 (j_ s1 (j_ hll1 (@List.length_map.{0,0}))))))) ?_
    refine ans_cut (vs := [.d (.agg [.int .i64 j.k,.int .i64 j.n,.str j.t,sD [],jsD []])]) ?_ rfl ⟨by rw [jd]; rfl,rfl⟩
    simp only [resV,zz,simprocAttr,z1]; rfl
theorem valid_ev (lim : Nat) (H : AHeap) (s : Tx) (hs : s.length ≤ 100000000000) : Ev (envN code primsF) 67 lim [.d (.str s)] H (boolD (vB s)) H := by
 refine Ev_prim (F := validF) POK.valid ?_
 unfold validF
 simp only
 rw [if_pos (by omega)]
def mE (s : Tx) : D × AV := (.str s,.d (.bool true))
theorem beq_str (s t : Tx) : D.beq (.str s) (.str t) = decide (s = t) := by
 rw [Bool.eq_iff_iff]; simp [D.beq]
theorem find_no : ∀ {rows : List Tx} {s : Tx},s ∉ rows → findE (.str s) (rows.map mE) = none
 | [],_,_ => rfl
 | t :: rows,s,h => by
  have h1 : s ≠ t := fun e => h (e ▸ List.mem_cons_self)
  show (if D.beq (.str s) (.str t) then _ else findE (.str s) (rows.map mE)) = none
  rw [beq_str,decide_eq_false h1,if_neg (by simp)]
  exact find_no fun k => h (List.mem_cons_of_mem _ k)
theorem find_yes : ∀ {rows : List Tx} {s : Tx},s ∈ rows → findE (.str s) (rows.map mE) = some (.d (.bool true))
 | t :: rows,s,h => by
  show (if D.beq (.str s) (.str t) then some (.d (.bool true)) else findE (.str s) (rows.map mE)) = _
  rw [beq_str]
  by_cases h1 : s = t
  ·rw [decide_eq_true h1,if_pos rfl]
  ·rw [decide_eq_false h1,if_neg (by simp)]
   rcases List.mem_cons.1 h with e | h
   ·exact absurd e h1
   ·exact find_yes h
theorem set_no : ∀ {rows : List Tx} {s : Tx},s ∉ rows → setE (.str s) (.d (.bool true)) (rows.map mE) = (rows ++ [s]).map mE
 | [],_,_ => rfl
 | t :: rows,s,h => by
  have h1 : s ≠ t := fun e => h (e ▸ List.mem_cons_self)
  show (if D.beq (.str s) (.str t) then _ else (.str t,.d (.bool true)) :: setE (.str s) (.d (.bool true)) (rows.map mE)) = _
  rw [beq_str,decide_eq_false h1,if_neg (by simp),set_no fun k => h (List.mem_cons_of_mem _ k)]
  rfl
theorem named_ev (lim : Nat) (H : AHeap) (ks : List Tx) (hk : ks.length ≤ 100000000000) (hs : ∀ s ∈ ks,s.length ≤ 100000000000) : Ev (envN code primsF) 68 lim [.d (sD ks)] H (boolD (namedB ks)) H := by
 refine Fn.ev ?_
 refine Fn_of (pn rfl) rfl (show code 68 = some c68 from rfl) rfl ?_; simp only [List.length_cons,List.length_nil,List.cons_append,List.nil_append,simprocAttr]
 refine w_r (@List.length_map.{0,0}) ?_
 refine W_lp (fun k st => ∃ (i : Nat) (K : AHeap),i ≤ ks.length ∧ k = ks.length - i ∧ (ks.take i).all vB = true ∧ (ks.take i).Nodup ∧ K[H.length]? = some (.map .str ((ks.take i).map mE)) ∧ ∃ x : Nat → AV,st = ⟨[x 0,x 1,x 2,boolD false,.mapr H.length,.d (sD ks),intD ks.length,intD i,x 8,x 9,x 10],K⟩) ?_ _ _ ⟨0,_,Nat.zero_le _,rfl,rfl,List.nodup_nil,get_last _ _,ex_st _ _ _ rfl⟩
 rintro k _ ⟨i,K,hi,rfl,ha,hnd,gK,x,rfl⟩
 by_cases t0 : i < ks.length
 ·have f1 : ((i : Int) < (ks.length : Int)) = True := eq_true (by omega)
  have w1 : IntKind.i64.wrap ((i : Int) + 1) = ((i + 1 : Nat) : Int) := wsucc (by omega)
  obtain ⟨s,hsx⟩ : ∃ s,ks[i]? = some s := ⟨_,List.getElem?_eq_getElem t0⟩
  have hc : ∀ s : Tx,(D.str s).cells = [D.str s] := fun _ => rfl
  have hik : ∀ s : Tx,isKey .str (.str s) = true := fun _ => rfl
  have hst := all_cut hsx vB
  rw [ha,Bool.true_and] at hst
  by_cases hm : s ∈ ks.take i
  ·have hf := find_yes hm
   have hno : namedB ks = false := by
    obtain ⟨q,hq,he⟩ := List.getElem_of_mem hm
    have hq' : q < i := by simp at hq; omega
    rw [List.getElem_take] at he
    exact nodup_no hsx (by rw [← he]; exact List.getElem?_eq_getElem _) hq'
   rw [hno]
   generalize (ks.take i).map mE = es at *
   refine w_r (j_ gK (j_ f1 (j_ hsx (j_ hc (j_ hik (j_ hf (@List.length_map.{0,0}))))))) ?_
   exact ans_cut rfl rfl ⟨rfl,rfl⟩
  ·have hf := find_no hm
   have hse := set_no hm
   have hx : ks.take i ++ [s] = ks.take (i + 1) := by rw [List.take_add_one,hsx]; rfl
   rw [hx] at hse
   have hn2 := nodup_step hsx hnd hm
   have he := valid_ev H.length K s (hs s (List.mem_of_getElem? hsx))
   have hl : H.length < K.length := (List.getElem?_eq_some_iff.1 gK).1
   have gS : ∀ o : AObj,(K.set H.length o)[H.length]? = some o := fun o => List.getElem?_set_self hl
   cases hv : vB s with
   | true =>
    rw [hv] at he hst
    obtain ⟨es,hes⟩ : ∃ es,(ks.take i).map mE = es := ⟨_,rfl⟩
    rw [hes] at gK hf hse
    (iterate 10 refine w_s (j_ gK (j_ f1 (j_ hsx (j_ hc (@List.length_map.{0,0}))))) ?_)
    refine w_1 he (j_ gK (j_ hik hf)) ?_
    refine w_r (j_ gK (j_ hik (j_ hse w1))) ?_
    exact ⟨ks.length - (i + 1),by omega,i + 1,_,t0,rfl,hst,hn2,gS _,ex_st _ _ _ rfl⟩
   | false =>
    rw [hv] at he
    have hno : namedB ks = false := by unfold namedB; rw [all_no hsx hv]; rfl
    rw [hno]
    obtain ⟨es,hes⟩ : ∃ es,(ks.take i).map mE = es := ⟨_,rfl⟩
    rw [hes] at gK hf hse
    (iterate 10 refine w_s (j_ gK (j_ f1 (j_ hsx (j_ hc (@List.length_map.{0,0}))))) ?_)
    refine w_1 he (j_ gK (j_ hik hf)) ?_
    refine w_r trivial ?_
    exact ans_cut rfl rfl ⟨rfl,rfl⟩
 ·obtain rfl : i = ks.length := by omega
  have f1 : ((ks.length : Int) < (ks.length : Int)) = False := eq_false (by omega)
  rw [List.take_length] at ha hnd
  have : namedB ks = true := by unfold namedB; rw [ha,decide_eq_true hnd]; rfl
  rw [this]
  refine w_r (j_ f1 (@List.length_map.{0,0})) ?_
  exact ans_cut rfl rfl ⟨rfl,rfl⟩
set_option maxHeartbeats 1000000 in
--
theorem shape_ev (lim : Nat) (H : AHeap) (j : J) (hj : Sh j) : Ev (envN code primsF) 52 lim [.d j.d] H (boolD (shapedB j)) H := by
 refine Fn.ev ?_
 refine Fn_of (pn rfl) rfl (show code 52 = some c52 from rfl) rfl ?_; simp only [List.length_cons,List.length_nil,List.cons_append,List.nil_append,simprocAttr]
 obtain ⟨s1,s2,s3,s4⟩ := hj
 obtain ⟨K,hK⟩ : ∃ K,H ++ [AObj.cells (jC j)] = K := ⟨_,rfl⟩
 have gK : K[H.length]? = some (.cells (jC j)) := by rw [← hK]; exact get_last _ _
 have hjd := jd j
 have w0 : IntKind.i64.wrap ((j.ks.length : Int) + (j.l.length : Int)) = ((j.ks.length + j.l.length : Nat) : Int) := by rw [w64 (by omega) (by omega)]; omega
 have eE : (((j.ks.length + j.l.length : Nat) : Int) == 0) = emptyB j := by rw [eq0]; exact decide_eq_decide.2 (by omega)
 have eN := eq0 j.n 0
 have eN1 := eq0 j.n 1
 have eT := eqT j.t []
 have hr : shapedB j = if j.k = 0 then emptyB j && decide (j.n = 0) && decide (j.t = [])
  else if j.k = 1 then emptyB j && decide (j.t = []) && (decide (j.n = 0) || decide (j.n = 1))
  else if j.k = 2 then emptyB j && decide (j.t = []) && decide (-9007199254740991 ≤ j.n) && decide (j.n ≤ 9007199254740991)
  else if j.k = 3 then emptyB j && decide (j.n = 0) && vB j.t
  else if j.k = 4 then decide (j.ks.length = 0) && decide (j.n = 0) && decide (j.t = [])
  else if j.k = 5 then decide (j.ks.length = j.l.length) && decide (j.n = 0) && decide (j.t = []) && namedB j.ks
  else false := rfl
 rw [hr]
 (iterate 2 refine w_s (j_ hjd hK) ?_)
 (iterate 4 refine w_s (j_ gK (j_ w0 (j_ eE (@List.length_map.{0,0})))) ?_)
 have k0e := eq0 j.k 0
 have k1e := eq0 j.k 1
 have k2e := eq0 j.k 2
 have k3e := eq0 j.k 3
 have k4e := eq0 j.k 4
 have k5e := eq0 j.k 5
 by_cases k0 : j.k = 0
 ·rw [if_pos k0]
  rw [decide_eq_true k0] at k0e
  generalize emptyB j = b1 at *
  generalize decide (j.n = 0) = b2 at *
  generalize decide (j.t = []) = b3 at *
  cases b1 <;> cases b2 <;> cases b3 <;> (refine w_r (j_ gK (j_ k0e (j_ eN eT))) ?_; exact ans_cut rfl rfl ⟨rfl,rfl⟩)
 rw [if_neg k0]
 rw [decide_eq_false k0] at k0e
 by_cases k1 : j.k = 1
 ·rw [if_pos k1]
  rw [decide_eq_true k1] at k1e
  generalize emptyB j = b1 at *
  generalize decide (j.n = 0) = b2 at *
  generalize decide (j.n = 1) = b4 at *
  generalize decide (j.t = []) = b3 at *
  cases b1 <;> cases b2 <;> cases b3 <;> cases b4 <;> (refine w_r (j_ gK (j_ k0e (j_ k1e (j_ eN (j_ eN1 eT))))) ?_; exact ans_cut rfl rfl ⟨rfl,rfl⟩)
 rw [if_neg k1]
 rw [decide_eq_false k1] at k1e
 by_cases k2 : j.k = 2
 ·rw [if_pos k2]
  rw [decide_eq_true k2] at k2e
  generalize emptyB j = b1 at *
  generalize decide (j.t = []) = b3 at *
  by_cases h2 : -9007199254740991 ≤ j.n
  ·have f2 : (-9007199254740991 ≤ j.n) = True := eq_true h2
   rw [decide_eq_true h2]
   by_cases h4 : j.n ≤ 9007199254740991
   ·have f4 : (j.n ≤ 9007199254740991) = True := eq_true h4
    rw [decide_eq_true h4]
    cases b1 <;> cases b3 <;> (refine w_r (j_ gK (j_ k0e (j_ k1e (j_ k2e (j_ f2 (j_ f4 eT)))))) ?_; exact ans_cut rfl rfl ⟨rfl,rfl⟩)
   ·have f4 : (j.n ≤ 9007199254740991) = False := eq_false h4
    rw [decide_eq_false h4]
    cases b1 <;> cases b3 <;> (refine w_r (j_ gK (j_ k0e (j_ k1e (j_ k2e (j_ f2 (j_ f4 eT)))))) ?_; exact ans_cut rfl rfl ⟨rfl,rfl⟩)
  ·have f2 : (-9007199254740991 ≤ j.n) = False := eq_false h2
   rw [decide_eq_false h2]
   generalize decide (j.n ≤ 9007199254740991) = b4
   cases b1 <;> cases b3 <;> cases b4 <;> (refine w_r (j_ gK (j_ k0e (j_ k1e (j_ k2e (j_ f2 eT))))) ?_; exact ans_cut rfl rfl ⟨rfl,rfl⟩)
 rw [if_neg k2]
 rw [decide_eq_false k2] at k2e
 by_cases k3 : j.k = 3
 ·rw [if_pos k3]
  rw [decide_eq_true k3] at k3e
  have he := valid_ev H.length K j.t s1
  generalize emptyB j = b1 at *
  generalize decide (j.n = 0) = b2 at *
  generalize vB j.t = b3 at *
  (iterate 15 refine w_s (j_ gK (j_ k0e (j_ k1e (j_ k2e k3e)))) ?_)
  cases b1 <;> cases b2 <;> cases b3 <;> (refine w_1 he (j_ gK eN) ?_; refine w_r trivial ?_; exact ans_cut rfl rfl ⟨rfl,rfl⟩)
 rw [if_neg k3]
 rw [decide_eq_false k3] at k3e
 by_cases k4 : j.k = 4
 ·rw [if_pos k4]
  rw [decide_eq_true k4] at k4e
  have eE4 : ((j.ks.length : Int) == 0) = decide (j.ks.length = 0) := by rw [eq0]; exact decide_eq_decide.2 (by omega)
  generalize decide (j.ks.length = 0) = b1 at *
  generalize decide (j.n = 0) = b2 at *
  generalize decide (j.t = []) = b3 at *
  cases b1 <;> cases b2 <;> cases b3 <;> (refine w_r (j_ gK (j_ k0e (j_ k1e (j_ k2e (j_ k3e (j_ k4e (j_ eN (j_ eT (j_ eE4 (@List.length_map.{0,0})))))))))) ?_; exact ans_cut rfl rfl ⟨rfl,rfl⟩)
 rw [if_neg k4]
 rw [decide_eq_false k4] at k4e
 by_cases k5 : j.k = 5
 ·rw [if_pos k5]
  rw [decide_eq_true k5] at k5e
  have he := named_ev H.length K j.ks s2 s4
  have eE5 : ((j.ks.length : Int) == (j.l.length : Int)) = decide (j.ks.length = j.l.length) := by rw [eq0]; exact decide_eq_decide.2 (by omega)
  generalize decide (j.ks.length = j.l.length) = b1 at *
  generalize decide (j.n = 0) = b2 at *
  generalize decide (j.t = []) = b3 at *
  generalize namedB j.ks = b4 at *
  (iterate 21 refine w_s (j_ gK (j_ k0e (j_ k1e (j_ k2e (j_ k3e (j_ k4e k5e)))))) ?_)
  cases b1 <;> cases b2 <;> cases b3 <;> cases b4 <;> (refine w_1 he (j_ gK (j_ eN (j_ eT (j_ eE5 (@List.length_map.{0,0}))))) ?_; refine w_r trivial ?_; exact ans_cut rfl rfl ⟨rfl,rfl⟩)
 rw [if_neg k5]
 rw [decide_eq_false k5] at k5e
 refine w_r (j_ gK (j_ k0e (j_ k1e (j_ k2e (j_ k3e (j_ k4e k5e)))))) ?_
 exact ans_cut rfl rfl ⟨rfl,rfl⟩
def IdxQ (l : List J) (g : J → Bool) (H : AHeap) (v : AV) (H' : AHeap) : Prop := (∃ r : Int,v = intD r ∧ decide (r ≥ 0) = l.any g) ∧ H' = H
theorem idxf_ev (lim : Nat) (K : AHeap) (l : List J) (r : Nat) (g : J → Bool) (hl : l.length ≤ 100000000000) (hc : ∀ y ∈ l,Ev (envN code primsF) 54 K.length [.d y.d,.ptr r 0] K (boolD (g y)) K) :
  Go.Abs.Fn (envN code primsF) 69 lim [.d (jsD l),.func (.func 54) [.ptr r 0]] K (IdxQ l g K) := by
 refine Fn_of (pn rfl) rfl (show code 69 = some c69 from rfl) rfl ?_; simp only [List.length_cons,List.length_nil,List.cons_append,List.nil_append,simprocAttr]
 refine w_r (@List.length_map.{0,0}) ?_
 refine W_lp (fun k st => ∃ i : Nat,i ≤ l.length ∧ k = l.length - i ∧ (l.take i).any g = false ∧ ∃ x : Nat → AV,st = ⟨[.d (jsD l),.func (.func 54) [.ptr r 0],x 2,x 3,intD 0,intD l.length,intD i,x 7,x 8],K⟩) ?_ _ _ ⟨0,Nat.zero_le _,rfl,rfl,ex_st _ _ _ rfl⟩
 rintro k _ ⟨i,hi,rfl,ha,x,rfl⟩
 by_cases t0 : i < l.length
 ·have f1 : ((i : Int) < (l.length : Int)) = True := eq_true (by omega)
  have w1 : IntKind.i64.wrap ((i : Int) + 1) = ((i + 1 : Nat) : Int) := wsucc (by omega)
  obtain ⟨y,hy⟩ : ∃ y,l[i]? = some y := ⟨_,List.getElem?_eq_getElem t0⟩
  have hyd := jd y
  have hst := any_cut hy g
  rw [ha,Bool.false_or] at hst
  have he := hc y (List.mem_of_getElem? hy)
  simp only [hyd] at he
  refine w_r f1 ?_
  refine W_region ?_
  apply WO_take 2; (focus (intro _; simp only [zz,simprocAttr,hy,hyd,List.length_map]; (first | done | exact rfl))); simp only [List.drop_succ_cons,List.drop_zero]
  refine WO_callV (f := 54) (caps := [.ptr r 0]) rfl ?_
  simp only [evx,List.map_cons,List.map_nil,List.contains,List.elem,List.getD_cons_succ,List.getD_cons_zero,reduceIte,Bool.false_eq_true,AV.unf,List.cons_append,List.nil_append]
  refine Ev.fn he ?_
  (apply WO_end; (focus (intro _; simp only [zz,simprocAttr]; (first | done | with_reducible exact rfl)))) <;> (try simp only [zp,simprocAttr])
  cases hv : g y with
  | true =>
   refine w_r trivial ?_
   exact ans_cut rfl rfl ⟨⟨_,rfl,by rw [any_yes hy hv]; exact decide_eq_true (by omega)⟩,rfl⟩
  | false =>
   rw [hv] at hst
   refine w_r w1 ?_
   exact ⟨l.length - (i + 1),by omega,i + 1,t0,rfl,hst,ex_st _ _ _ rfl⟩
 ·obtain rfl : i = l.length := by omega
  have f1 : ((l.length : Int) < (l.length : Int)) = False := eq_false (by omega)
  rw [List.take_length] at ha
  refine w_r f1 ?_
  exact ans_cut rfl rfl ⟨⟨_,rfl,by rw [ha]; rfl⟩,rfl⟩
theorem has_ev (lim : Nat) (K : AHeap) (l : List J) (r : Nat) (g : J → Bool) (hl : l.length ≤ 100000000000) (hc : ∀ y ∈ l,Ev (envN code primsF) 54 K.length [.d y.d,.ptr r 0] K (boolD (g y)) K) :
  Ev (envN code primsF) 53 lim [.d (jsD l),.func (.func 54) [.ptr r 0]] K (boolD (l.any g)) K := by
 refine Fn.ev ?_
 refine Fn_of (pn rfl) rfl (show code 53 = some c53 from rfl) rfl ?_; simp only [List.length_cons,List.length_nil,List.cons_append,List.nil_append,simprocAttr]
 obtain ⟨_,K',he,⟨q,rfl,hq⟩,e'⟩ := fn_out (idxf_ev K.length K l r g hl hc)
 rw [e'] at he
 (iterate 3 refine w_s trivial ?_)
 refine w_1 he hq ?_
 refine w_r trivial ?_
 exact ans_cut rfl rfl ⟨rfl,rfl⟩
theorem not_any (l : List J) (f : J → Bool) : (!(l.any fun x => !f x)) = l.all f := by
 induction l with
 | nil => rfl
 | cons a l ih => rw [List.any_cons,List.all_cons,← ih]; cases f a <;> simp
mutual
theorem goodP_ev : ∀ (n : Nat) (lim : Nat) (H : AHeap) (j : J),n ≤ 1000 → wt j ≤ 100000000000 → Ev (envN code primsF) 34 lim [.d j.d,intD n] H (boolD (goodB n j)) H
 | 0,lim,H,j,_,_ => by
  refine Fn.ev ?_
  refine Fn_of (pn rfl) rfl (show code 34 = some c34 from rfl) rfl ?_; simp only [List.length_cons,List.length_nil,List.cons_append,List.nil_append,simprocAttr]
  have hjd := jd j
  obtain ⟨J',hJ⟩ : ∃ J',H ++ [AObj.cells (jC j)] = J' := ⟨_,rfl⟩
  obtain ⟨K,hK⟩ : ∃ K,J' ++ [AObj.cells [intD (0 : Nat)]] = K := ⟨_,rfl⟩
  have gK2 : K[J'.length]? = some (.cells [.d (.int .i64 (0 : Nat))]) := by rw [← hK]; exact get_last _ _
  have f0 : (((0 : Nat) : Int) > 0) = False := eq_false (by omega)
  (iterate 2 refine w_s (j_ hjd (j_ hJ hK)) ?_)
  refine w_r (j_ gK2 f0) ?_
  exact ans_cut rfl rfl ⟨rfl,rfl⟩
 | n + 1,lim,H,j,hn,hj => by
  refine Fn.ev ?_
  refine Fn_of (pn rfl) rfl (show code 34 = some c34 from rfl) rfl ?_; simp only [List.length_cons,List.length_nil,List.cons_append,List.nil_append,simprocAttr]
  have hjd := jd j
  obtain ⟨J',hJ⟩ : ∃ J',H ++ [AObj.cells (jC j)] = J' := ⟨_,rfl⟩
  have gJ : J'[H.length]? = some (.cells (jC j)) := by rw [← hJ]; exact get_last _ _
  obtain ⟨K,hK⟩ : ∃ K,J' ++ [AObj.cells [intD (n + 1 : Nat)]] = K := ⟨_,rfl⟩
  have gK : K[H.length]? = some (.cells (jC j)) := by rw [← hK]; exact get_more _ gJ
  have gK2 : K[J'.length]? = some (.cells [.d (.int .i64 (n + 1 : Nat))]) := by rw [← hK]; exact get_last _ _
  have f0 : (((n + 1 : Nat) : Int) > 0) = True := eq_true (by omega)
  have he := shape_ev H.length K j (sh_of hj)
  simp only [hjd] at he
  have hr : goodB (n + 1) j = (shapedB j && j.l.all (goodB n)) := rfl
  have hall := not_any j.l (goodB n)
  have hg := has_ev H.length K j.l J'.length (fun x => !goodB n x) (sh_of hj).2.2.1 fun y hy => by
   have hd' : wt y ≤ 100000000000 := by have := wt_mem hy; omega
   exact inner_ev n K.length K y J'.length (by omega) hd' gK2
  (iterate 2 refine w_s (j_ hjd (j_ hJ hK)) ?_)
  (iterate 1 refine w_s trivial ?_)
  rw [hr]
  cases hs : shapedB j with
  | false =>
   rw [hs] at he
   refine w_1 he (j_ gK (j_ gK2 f0)) ?_
   refine w_r trivial ?_
   exact ans_cut rfl rfl ⟨rfl,rfl⟩
  | true =>
   rw [hs] at he
   rw [← hall]
   generalize (j.l.any fun x => !goodB n x) = b at *
   refine w_2 he hg (j_ gK (j_ gK2 f0)) ?_
   refine w_r trivial ?_
   exact ans_cut rfl rfl ⟨rfl,rfl⟩
theorem inner_ev : ∀ (n : Nat) (lim : Nat) (H : AHeap) (j : J) (r : Nat),n ≤ 1000 → wt j ≤ 100000000000 → H[r]? = some (.cells [.d (.int .i64 (n + 1 : Nat))]) → Ev (envN code primsF) 54 lim [.d j.d,.ptr r 0] H (boolD (!goodB n j)) H
 | n,lim,H,j,r,hn,hj,gr => by
  refine Fn.ev ?_
  refine Fn_of (pn rfl) rfl (show code 54 = some c54 from rfl) rfl ?_; simp only [List.length_cons,List.length_nil,List.cons_append,List.nil_append,simprocAttr]
  have hjd := jd j
  obtain ⟨K,hK⟩ : ∃ K,H ++ [AObj.cells (jC j)] = K := ⟨_,rfl⟩
  have gK : K[H.length]? = some (.cells (jC j)) := by rw [← hK]; exact get_last _ _
  have gK2 : K[r]? = some (.cells [.d (.int .i64 (n + 1 : Nat))]) := by rw [← hK]; exact get_more _ gr
  have w2 : IntKind.i64.wrap (((n + 1 : Nat) : Int) - 1) = (n : Int) := by rw [w64 (by omega) (by omega)]; omega
  have he := goodP_ev n H.length K j hn hj
  simp only [hjd] at he
  (iterate 2 refine w_s (j_ hjd hK) ?_)
  (iterate 1 refine w_s trivial ?_)
  refine w_1 he (j_ gK (j_ gK2 w2)) ?_
  refine w_r trivial ?_
  exact ans_cut rfl rfl ⟨rfl,rfl⟩
end
theorem Good_ev (lim : Nat) (H : AHeap) (j : J) (hj : wt j ≤ 100000000000) : Ev (envN code primsF) 20 lim [.d j.d] H (boolD (goodB 12 j)) H := by
 refine Fn.ev ?_
 refine Fn_of (pn rfl) rfl (show code 20 = some c20 from rfl) rfl ?_; simp only [List.length_cons,List.length_nil,List.cons_append,List.nil_append,simprocAttr]
 have hjd := jd j
 obtain ⟨K,hK⟩ : ∃ K,H ++ [AObj.cells (jC j)] = K := ⟨_,rfl⟩
 have gK : K[H.length]? = some (.cells (jC j)) := by rw [← hK]; exact get_last _ _
 have he : Ev (envN code primsF) 34 H.length [.d j.d,intD 12] K (boolD (goodB 12 j)) K := goodP_ev 12 H.length K j (by omega) hj
 simp only [hjd] at he
 (iterate 2 refine w_s (j_ hjd hK) ?_)
 (iterate 1 refine w_s trivial ?_)
 refine w_1 he gK ?_
 refine w_r trivial ?_
 exact ans_cut rfl rfl ⟨rfl,rfl⟩
def orderS (j : J) : J := if goodB 12 j then orderJ j else J.zero
def encV : Except Nat Tx → AV
 | .ok e => .tuple [.d (.slice (e.map byteD)),intD 0]
 | .error c => .tuple [.d (.slice []),intD c]
theorem OrderR_ev (lim : Nat) (H : AHeap) (j : J) (hw : wt j ≤ 100000000000) : Ev (envN code primsF) 15 lim [.d j.d] H (.d (orderS j).d) H := by
 refine Fn.ev ?_
 refine Fn_of (pn rfl) rfl (show code 15 = some c15 from rfl) rfl ?_; simp only [List.length_cons,List.length_nil,List.cons_append,List.nil_append,simprocAttr]
 have hjd := jd j
 obtain ⟨K,kk,g1,g2,s1,s2⟩ : ∃ K : AObj → AHeap,(∀ o,H ++ [AObj.cells (jC j)] ++ [o] = K o) ∧ (∀ o,(K o)[H.length]? = some (.cells (jC j))) ∧ (∀ o,(K o)[H.length + 1]? = some o) ∧ (H ++ [AObj.cells (jC j)]).length = H.length + 1 ∧ (∀ o o',(K o).set (H.length + 1) o' = K o') :=
  ⟨fun o => H ++ [AObj.cells (jC j)] ++ [o],fun _ => rfl,fun o => by simp,fun o => by simp,by simp,fun o o' => by simp⟩
 have hll : H.length ≤ H.length + 1 := by omega
 have hg := GoodR_ev H.length (K zO) j hw
 simp only [hjd] at hg
 unfold orderS
 (iterate 2 refine w_s (j_ hjd (j_ kk s1)) ?_)
 cases hgo : goodB 12 j with
 | false =>
  rw [hgo] at hg
  refine w_r g1 ?_
  refine w_1 hg g1 ?_
  refine w_r (j_ g2 (j_ s2 hll)) ?_
  refine ans_cut (vs := [.d J.zero.d]) ?_ rfl ⟨rfl,rfl⟩
  rw [jd]
  simp only [resV,zz,simprocAttr,g2]; rfl
 | true =>
  rw [hgo] at hg
  have ho := refOrder_ev 12 H.length (K zO) j (good_ord hgo) hw
  simp only [hjd] at ho
  have hod := jd (orderJ j)
  rw [hod] at ho
  refine w_r g1 ?_
  refine w_1 hg g1 ?_
  refine w_r (j_ g1 g2) ?_
  refine w_1 ho (j_ g1 (j_ g2 (j_ s2 hll))) ?_
  refine w_r trivial ?_
  refine ans_cut (vs := [.d (orderJ j).d]) ?_ rfl ⟨rfl,rfl⟩
  rw [hod]
  simp only [resV,zz,simprocAttr,g2]
theorem dec_ne (n : Nat) : Lib.decDigits n ≠ [] := by
 intro h
 have := congrArg List.length h
 rw [Lib.decDigits] at this
 split at this <;> simp at this
theorem itoa_ne (n : Int) : Lib.itoa n ≠ [] := by
 unfold Lib.itoa
 split
 ·simp
 ·exact dec_ne _
theorem enc_ne (j : J) : encJ j ≠ [] := by
 rw [encJ_eq]
 (repeat' split) <;> first | exact itoa_ne _ | simp [quoteB]
theorem toB_ne {s : Tx} (h : s ≠ []) : toB s = .fslice (s.map byteD) := by
 cases s with
 | nil => exact absurd rfl h
 | cons c s => rfl
theorem EncodeR_ev (lim : Nat) (H : AHeap) (j : J) (hw : wt j ≤ 100000000000) : Ev (envN code primsF) 19 lim [.d j.d] H (encV (encodeS j)) H := by
 refine Fn.ev ?_
 refine Fn_of (pn rfl) rfl (show code 19 = some c19 from rfl) rfl ?_; simp only [List.length_cons,List.length_nil,List.cons_append,List.nil_append,simprocAttr]
 have hjd := jd j
 obtain ⟨K,hK⟩ : ∃ K,H ++ [AObj.cells (jC j)] = K := ⟨_,rfl⟩
 have gK : K[H.length]? = some (.cells (jC j)) := by rw [← hK]; exact get_last _ _
 have hg := GoodR_ev H.length K j hw
 simp only [hjd] at hg
 unfold encodeS
 (iterate 2 refine w_s (j_ hjd hK) ?_)
 cases hgo : goodB 12 j with
 | false =>
  rw [hgo] at hg
  refine w_r gK ?_
  refine w_1 hg gK ?_
  refine w_r trivial ?_
  exact ans_cut (vs := [.fslice [],intD 1]) rfl rfl ⟨rfl,rfl⟩
 | true =>
  rw [hgo] at hg
  have ho := refOrder_ev 12 H.length K j (good_ord hgo) hw
  have hw2 : wt (orderJ j) ≤ 100000000000 := by rw [wt_order (good_ord hgo)]; exact hw
  have htx := good_txt hgo
  have ht := text_ev 12 H.length K (orderJ j) htx hw2
  have hle := enc_le htx
  have hTb := toB_ne (enc_ne (orderJ j))
  simp only [hjd] at ho
  have hod := jd (orderJ j)
  rw [hod] at ho ht
  rw [if_pos rfl]
  generalize encJ (orderJ j) = T at *
  refine w_r gK ?_
  refine w_1 hg gK ?_
  refine w_r gK ?_
  refine w_2 ho ht gK ?_
  by_cases hl : 16384 < T.length
  ·have f1 : ((T.length : Int) > 16384) = True := eq_true (by omega)
   rw [if_pos hl]
   refine w_r (j_ f1 hTb) ?_
   exact ans_cut (vs := [.fslice [],intD 13]) rfl rfl ⟨rfl,rfl⟩
  ·have f1 : ((T.length : Int) > 16384) = False := eq_false (by omega)
   rw [if_neg hl]
   refine w_r (j_ f1 hTb) ?_
   exact ans_cut (vs := [.fslice (T.map byteD),intD 0]) rfl rfl ⟨rfl,rfl⟩
abbrev bF (b : Tx) : AV := .fslice (b.map byteD)
theorem bool_ev (lim : Nat) (H : AHeap) (b : Tx) (t : Bool) (hb : b.length ≤ 10000000000000) : Ev (envN code primsF) 64 lim [bF b,boolD t] H (bF (b ++ (if t = true then [116,114,117,101] else [102,97,108,115,101]))) H := by
 refine Fn.ev ?_
 refine Fn_of (pn rfl) rfl (show code 64 = some c64 from rfl) rfl ?_; simp only [List.length_cons,List.length_nil,List.cons_append,List.nil_append,simprocAttr]
 have hz := headSz_bytes b
 have n1 : (b.length + (0 + 1 + 1 + 1 + 1)) * 2 ≤ 70368744177664 := by omega
 have n2 : (b.length + (0 + 1 + 1 + 1 + 1 + 1)) * 2 ≤ 70368744177664 := by omega
 cases t with
 | true =>
  refine w_r (j_ hz (j_ n1 (@List.length_map.{0,0}))) ?_
  exact ans_cut (vs := [bF (b ++ [116,114,117,101])]) (by simp only [resV,zz,simprocAttr]; simp [bF]) rfl ⟨rfl,rfl⟩
 | false =>
  refine w_r (j_ hz (j_ n2 (@List.length_map.{0,0}))) ?_
  exact ans_cut (vs := [bF (b ++ [102,97,108,115,101])]) (by simp only [resV,zz,simprocAttr]; simp [bF]) rfl ⟨rfl,rfl⟩
theorem boolA_ev (lim : Nat) (H : AHeap) (b : Tx) (t : Bool) (hb : b.length ≤ 10000000000000) : Ev (envN code primsF) 45 lim [bF b,boolD t] H (bF (b ++ (if t = true then [116,114,117,101] else [102,97,108,115,101]))) H := by
 refine Fn.ev ?_
 refine Fn_of (pn rfl) rfl (show code 45 = some c45 from rfl) rfl ?_; simp only [List.length_cons,List.length_nil,List.cons_append,List.nil_append,simprocAttr]
 have h := bool_ev H.length H b t hb
 refine w_r trivial ?_
 refine w_1 h trivial ?_
 refine w_r trivial ?_
 exact ans_cut (vs := [bF (b ++ _)]) rfl rfl ⟨rfl,rfl⟩
theorem l10_mul (x : Nat) (h : x < 1000000) : binInt .mul .i64 (x : Int) 78913 = some (.int .i64 ((x * 78913 : Nat) : Int)) := by
 simp only [binInt]
 rw [show ((x : Int) * 78913) = ((x * 78913 : Nat) : Int) by omega,w64n _ (by omega)]
theorem l10_shr (x : Nat) : shiftInt .shr .i64 ((x * 78913 : Nat) : Int) 18 = some (.int .i64 ((x * 78913 / 262144 : Nat) : Int)) := by
 unfold shiftInt
 rw [if_neg (by decide)]
 show some (D.int .i64 (Int.fdiv ((x * 78913 : Nat) : Int) (2 ^ 18))) = _
 rw [Int.fdiv_eq_ediv_of_nonneg _ (by decide)]
 rfl
theorem l10_ev (lim : Nat) (H : AHeap) (x : Nat) (h : x ≤ 64) : Ev (envN code primsF) 101 lim [intD x] H (intD ((Lib.l10 x : Nat) : Int)) H := by
 refine Fn.ev ?_
 refine Fn_of (pn rfl) rfl (show code 101 = some c101 from rfl) rfl ?_; simp only [List.length_cons,List.length_nil,List.cons_append,List.nil_append,simprocAttr]
 have f1 := l10_mul x (by omega)
 unfold Lib.l10
 refine w_r (j_ f1 @l10_shr) ?_
 exact ans_cut rfl rfl ⟨rfl,rfl⟩
theorem b2_ev (lim : Nat) (H : AHeap) (t : Bool) : Ev (envN code primsF) 102 lim [boolD t] H (intD (if t = true then 1 else 0)) H := by
 refine Fn.ev ?_
 refine Fn_of (pn rfl) rfl (show code 102 = some c102 from rfl) rfl ?_; simp only [List.length_cons,List.length_nil,List.cons_append,List.nil_append,simprocAttr]
 cases t <;> (refine w_r trivial ?_; exact ans_cut rfl rfl ⟨rfl,rfl⟩)
theorem bitLen_le {u : Nat} (h : u < 18446744073709551616) : Lib.bitLen u ≤ 64 := Lib.bitLen_le u 64 (Nat.le_refl _) h
theorem pow_at {i : Nat} (h : i < 20) : tab3[i]? = some (.int .u64 ((10 ^ i : Nat) : Int)) := by
 unfold tab3
 rw [List.getElem?_map,List.getElem?_range h]; rfl
theorem many_ev (lim : Nat) (H : AHeap) (u : Nat) (h1 : 1 ≤ u) (h2 : u < 18446744073709551616) : Ev (envN code primsF) 93 lim [.d (.int .u64 u)] H (intD (Lib.nDigits u)) H := by
 refine Fn.ev ?_
 refine Fn_of (pn rfl) rfl (show code 93 = some c93 from rfl) rfl ?_; simp only [List.length_cons,List.length_nil,List.cons_append,List.nil_append,simprocAttr]
 have hq := Lib.numDigits_eq u h1 h2
 have hb := bitLen_le h2
 have a1 : Ev (envN code primsF) 91 H.length [.d (.int .u64 u)] H (intD ((Lib.bitLen u : Nat) : Int)) H := Ev_prim (F := len64F) POK.len (by
  unfold len64F
  simp only
  rw [if_pos (by omega)]; rfl)
 have a2 := l10_ev H.length H (Lib.bitLen u) hb
 have hp := pow_at (i := Lib.l10 (Lib.bitLen u)) (by omega)
 generalize Lib.l10 (Lib.bitLen u) = x at *
 obtain ⟨hq,hx⟩ := hq
 rw [← hq]
 have hx' := hx
 have a3 := b2_ev H.length H (decide (10 ^ x ≤ u))
 have f1 : decide ((u : Int) ≥ ((10 ^ x : Nat) : Int)) = decide (10 ^ x ≤ u) := decide_eq_decide.mpr (by omega)
 refine w_r trivial ?_
 refine w_2 a1 a2 trivial ?_
 have hi : (0 : Int) ≤ (x : Int) ∧ (x : Int) < (20 : Int) := by omega
 have w1 : IntKind.i64.wrap ((x : Int) + (if decide (10 ^ x ≤ u) = true then 1 else 0)) = ((x + (if 10 ^ x ≤ u then 1 else 0) : Nat) : Int) := by
  rw [w64 (by split <;> omega) (by split <;> omega)]
  by_cases h : 10 ^ x ≤ u <;> simp [h]
 refine W_sq ?_
 have hp' : (List.drop (x * 1) tab3)[0]? = some (.int .u64 ((10 ^ x : Nat) : Int)) := by rw [Nat.mul_one,List.getElem?_drop]; exact hp
 clear hp hq
 generalize 10 ^ x = p at *
 have f2 : ((u : Int) ≥ (p : Int)) = (p ≤ u) := propext (by omega)
 by_cases hpu : p ≤ u
 ·have f3 : ((u : Int) ≥ (p : Int)) = True := eq_true (by omega)
  simp only [hpu,decide_true,if_true] at a3 w1 ⊢
  refine w_1 a3 (j_ hp' (j_ hi (j_ f3 w1))) ?_
  refine w_r trivial ?_
  exact ans_cut rfl rfl ⟨rfl,rfl⟩
 ·have f3 : ((u : Int) ≥ (p : Int)) = False := eq_false (by omega)
  simp only [hpu,decide_false,Bool.false_eq_true,if_false] at a3 w1 ⊢
  refine w_1 a3 (j_ hp' (j_ hi (j_ f3 w1))) ?_
  refine w_r trivial ?_
  exact ans_cut rfl rfl ⟨rfl,rfl⟩
theorem small_dec {n : Nat} (h : n < 100) : smallS n = Lib.decDigits n := by
 unfold smallS
 split
 ·rename_i h1; rw [Lib.decDigits_one h1]
 ·rename_i h1; rw [Lib.decDigits_two h1 h]
theorem uint_ev (lim : Nat) (H : AHeap) (b : Tx) (u : Nat) (h2 : u < 18446744073709551616) (hb : b.length ≤ 10000000000000) : Ev (envN code primsF) 77 lim [bF b,.d (.int .u64 u),.d (.int .i64 10)] H (bF (b ++ Lib.decDigits u)) H := by
 refine Fn.ev ?_
 refine Fn_of (pn rfl) rfl (show code 77 = some c77 from rfl) rfl ?_; simp only [List.length_cons,List.length_nil,List.cons_append,List.nil_append,simprocAttr]
 have hz := headSz_bytes b
 by_cases hs : u < 100
 ·have f1 : ((u : Int) < 100) = True := eq_true (by omega)
  have w1 : IntKind.i64.wrap (u : Int) = (u : Int) := w64 (by omega) (by omega)
  have hl : (smallS u).length ≤ 2 := by unfold smallS; split <;> simp
  have a1 : Ev (envN code primsF) 92 H.length [.d (.int .i64 u)] H (.d (.str (smallS u))) H := Ev_prim (F := smallF) POK.small (by
   unfold smallF
   simp only
   rw [if_pos (by omega)]; simp)
  have n1 : (b.length + (smallS u).length) * 2 ≤ 70368744177664 := by omega
  rw [← small_dec hs]
  generalize smallS u = t at *
  refine w_r f1 ?_
  have hz2 := headSz_bytes t
  refine w_1 a1 (j_ w1 (j_ hz (j_ hz2 (j_ n1 (@List.length_map.{0,0}))))) ?_
  refine w_r trivial ?_
  exact ans_cut (vs := [bF (b ++ t)]) (by simp only [resV,zz,simprocAttr]; simp [bF]) rfl ⟨rfl,rfl⟩
 ·have f1 : ((u : Int) < 100) = False := eq_false (by omega)
  (iterate 12 refine w_s f1 ?_)
  generalize hZ : ([AV.d (D.int IntKind.u8 0),AV.d (D.int IntKind.u8 0),AV.d (D.int IntKind.u8 0),AV.d (D.int IntKind.u8 0),AV.d (D.int IntKind.u8 0),AV.d (D.int IntKind.u8 0),AV.d (D.int IntKind.u8 0),AV.d (D.int IntKind.u8 0),AV.d (D.int IntKind.u8 0),AV.d (D.int IntKind.u8 0),AV.d (D.int IntKind.u8 0),AV.d (D.int IntKind.u8 0),AV.d (D.int IntKind.u8 0),AV.d (D.int IntKind.u8 0),AV.d (D.int IntKind.u8 0),AV.d (D.int IntKind.u8 0),AV.d (D.int IntKind.u8 0),AV.d (D.int IntKind.u8 0),AV.d (D.int IntKind.u8 0),AV.d (D.int IntKind.u8 0),AV.d (D.int IntKind.u8 0),AV.d (D.int IntKind.u8 0),AV.d (D.int IntKind.u8 0),AV.d (D.int IntKind.u8 0)] : List AV) = Z
  have hZl : Z.length = 24 := by rw [← hZ]; rfl
  have hZr : Z = List.replicate 24 (AV.d (.int .u8 0)) := by rw [← hZ]; rfl
  clear hZ
  have hn : Lib.nDigits u ≤ 20 := nDigits_le 19 u (by omega)
  have hdl := Lib.decDigits_length u
  have a1 := many_ev H.length (H ++ [.cells Z]) u (by omega) h2
  have g1 : (H ++ [AObj.cells Z])[H.length]? = some (.cells Z) := by simp
  generalize hN : Lib.nDigits u = N at *
  generalize hW : splice Z 0 ((Lib.decDigits u).map fun b => AV.d (byteD b)) = W
  have hO : (H ++ [AObj.cells Z]).set H.length (.cells W) = H ++ [.cells W] := by simp
  have a2 : Ev (envN code primsF) 94 H.length [.oslice H.length 0 N 24 1,.d (.int .u64 u)] (H ++ [.cells Z]) (.tuple []) (H ++ [.cells W]) := Ev_prim (F := fbF) POK.fb (by
   unfold fbF
   simp only [g1]
   rw [if_pos (by
    refine ⟨Nat.le_refl _,by omega,by omega,by simp [hN],by omega,by omega,?_⟩
    rw [hZr,List.take_replicate,Nat.min_eq_left (by omega)]
    exact AV.beqs_self _),Int.toNat_natCast,hW,hO])
  generalize hX : Lib.decDigits u = X at *
  have hWl : W.length = 24 := by rw [← hW]; simp [splice,hZl]; omega
  have m1 : arrLen (H ++ [.cells Z]) H.length = 24 := by simp [arrLen,hZl]
  have m2 : arrLen (H ++ [.cells W]) H.length = 24 := by simp [arrLen,hWl]
  have g2 : (H ++ [AObj.cells W])[H.length]? = some (.cells W) := by simp
  have hc : chunks 1 false N W = some (X.map byteD) := by rw [← hW,← hdl]; have := chunks_bytes X (Z.drop X.length); rw [List.map_map] at this; simpa [splice,Function.comp_def] using this
  have m3 : ((N : Int) - 0).toNat = N := by omega
  have l1 : N * 1 ≤ W.length := by omega
  have hz2 := headSz_bytes X
  have n1 : (b.length + X.length) * 2 ≤ 70368744177664 := by omega
  have q1 : (0 : Int) ≤ (N : Int) ∧ (N : Int) ≤ 24 := by omega
  refine W_sq ?_
  refine w_1 a1 trivial ?_
  refine W_sq ?_
  refine w_1 a2 (j_ m1 (j_ q1 m3)) ?_
  refine W_sq ?_
  (apply W_rg; focus (intro k; simp (maxSteps := 100000000) only [zz,zd,simprocAttr,m2,m3,l1,q1,g2,hc,hz,hz2,n1,List.length_map]; (first | done | with_reducible exact rfl))) <;> (try simp only [zp,simprocAttr])
  refine w_r trivial ?_
  exact ans_cut (vs := [bF (b ++ X)]) (by simp only [resV,zz,simprocAttr]; simp [bF]) rfl ⟨rfl,rfl⟩
theorem neg_u64 (n : Int) (h1 : -9223372036854775808 ≤ n) (h : n < 0) : IntKind.u64.wrap (0 - IntKind.u64.wrap n) = ((n.natAbs : Nat) : Int) := by
 simp only [IntKind.wrap,IntKind.bits,IntKind.signed]
 simp
 omega
theorem int_ev (lim : Nat) (H : AHeap) (b : Tx) (n : Int) (h1 : -9007199254740991 ≤ n) (h2 : n ≤ 9007199254740991) (hb : b.length + 1 ≤ 10000000000000) : Ev (envN code primsF) 65 lim [bF b,.d (.int .i64 n),.d (.int .i64 10)] H (bF (b ++ Lib.itoa n)) H := by
 refine Fn.ev ?_
 refine Fn_of (pn rfl) rfl (show code 65 = some c65 from rfl) rfl ?_; simp only [List.length_cons,List.length_nil,List.cons_append,List.nil_append,simprocAttr]
 have hz := headSz_bytes b
 unfold Lib.itoa
 by_cases h : n < 0
 ·have f1 : (n < 0) = True := eq_true h
  have w1 := neg_u64 n (by omega) h
  have n1 : (b.length + (0 + 1)) * 2 ≤ 70368744177664 := by omega
  have a1 := uint_ev H.length H (b ++ [45]) n.natAbs (by omega) (by simp; omega)
  have ee : bF (b ++ [45]) = .fslice (b.map byteD ++ [D.int .u8 45]) := by simp [bF,byteD]
  rw [ee] at a1
  rw [if_pos h]
  refine w_r (j_ f1 (j_ w1 (j_ hz (j_ n1 (@List.length_map.{0,0}))))) ?_
  refine w_1 a1 trivial ?_
  refine w_r trivial ?_
  exact ans_cut (vs := [bF (b ++ [45] ++ Lib.decDigits n.natAbs)]) rfl rfl ⟨by simp,rfl⟩
 ·have f1 : (n < 0) = False := eq_false h
  have w1 : IntKind.u64.wrap n = ((n.toNat : Nat) : Int) := by
   simp only [IntKind.wrap,IntKind.bits,IntKind.signed]; simp; omega
  have a1 := uint_ev H.length H b n.toNat (by omega) (by omega)
  rw [if_neg h]
  refine w_r (j_ f1 w1) ?_
  refine w_1 a1 trivial ?_
  refine w_r trivial ?_
  exact ans_cut (vs := [bF (b ++ _)]) rfl rfl ⟨rfl,rfl⟩
theorem intA_ev (lim : Nat) (H : AHeap) (b : Tx) (n : Int) (h1 : -9007199254740991 ≤ n) (h2 : n ≤ 9007199254740991) (hb : b.length + 1 ≤ 10000000000000) : Ev (envN code primsF) 46 lim [bF b,.d (.int .i64 n),.d (.int .i64 10)] H (bF (b ++ Lib.itoa n)) H := by
 refine Fn.ev ?_
 refine Fn_of (pn rfl) rfl (show code 46 = some c46 from rfl) rfl ?_; simp only [List.length_cons,List.length_nil,List.cons_append,List.nil_append,simprocAttr]
 have h := int_ev H.length H b n h1 h2 hb
 refine w_r trivial ?_
 refine w_1 h trivial ?_
 refine w_r trivial ?_
 exact ans_cut (vs := [bF (b ++ _)]) rfl rfl ⟨rfl,rfl⟩
theorem shr4 (c : Nat) : shiftInt .shr .u8 (c : Int) 4 = some (.int .u8 ((c / 16 : Nat) : Int)) := by
 unfold shiftInt
 rw [if_neg (by decide)]
 show some (D.int .u8 (Int.fdiv (c : Int) (2 ^ 4))) = _
 rw [Int.fdiv_eq_ediv_of_nonneg _ (by decide)]
 rfl
theorem and15u (b : Nat) (hb : b < 256) : binInt .and .u8 (b : Int) 15 = some (.int .u8 ((b % 16 : Nat) : Int)) := by
 have := b_and .u8 b 15
 rw [show IntKind.u8.bits = 8 from rfl,Nat.mod_eq_of_lt (a := b) (show b < 2 ^ 8 by omega),Nat.mod_eq_of_lt (a := 15) (show 15 < 2 ^ 8 by omega),Nat.and_two_pow_sub_one_eq_mod b 4,u8w _ (by omega)] at this
 exact this
set_option maxHeartbeats 1000000 in
--
theorem quote_ev (lim : Nat) (H : AHeap) (b s : Tx) (hb : b.length ≤ 10000000000000) (hs : s.length ≤ 100000000000) : Ev (envN code primsF) 47 lim [bF b,.d (.str s)] H (bF (b ++ quoteB s)) H := by
 refine Fn.ev ?_
 refine Fn_of (pn rfl) rfl (show code 47 = some c47 from rfl) rfl ?_; simp only [List.length_cons,List.length_nil,List.cons_append,List.nil_append,simprocAttr]
 have hz := headSz_bytes b
 have n0 : (b.length + (0 + 1)) * 2 ≤ 70368744177664 := by omega
 refine w_r (j_ hz (j_ n0 (@List.length_map.{0,0}))) ?_
 refine W_lp (fun k st => ∃ (i : Nat) (T : List D),i ≤ s.length ∧ k = s.length - i ∧ T = (b ++ 34 :: (s.take i).flatMap escB).map byteD ∧ ∃ x : Nat → AV,st = ⟨[.fslice T,.d (.str s),x 2,x 3,x 4,x 5,x 6,x 7,x 8,x 9,.fslice [],intD s.length,intD i,x 13,x 14,x 15,x 16,x 17],H⟩) ?_ _ _ ⟨0,_,Nat.zero_le _,rfl,by simp [byteD],ex_st _ _ _ rfl⟩
 rintro k _ ⟨i,T,hi,rfl,hT,x,rfl⟩
 have hfl := flat_len (s.take i)
 have htl : (s.take i).length ≤ 100000000000 := by simp; omega
 have hTz : headSz 1 T = true := by rw [hT]; exact headSz_bytes _
 have hTl : T.length ≤ 11000000000000 := by rw [hT,List.length_map,List.length_append,List.length_cons]; omega
 by_cases t0 : i < s.length
 ·have f1 : ((i : Int) < (s.length : Int)) = True := eq_true (by omega)
  have w1 : IntKind.i64.wrap ((i : Int) + 1) = ((i + 1 : Nat) : Int) := wsucc (by omega)
  obtain ⟨c,hc⟩ : ∃ c,s[i]? = some c := ⟨_,List.getElem?_eq_getElem t0⟩
  have hcl := c.toNat_lt
  have hx := flat_succ hc
  have next : ∀ {st : St},(∃ x : Nat → AV,st = ⟨[.fslice (T ++ (escB c).map byteD),.d (.str s),x 2,x 3,x 4,x 5,x 6,x 7,x 8,x 9,.fslice [],intD s.length,intD ((i + 1 : Nat) : Int),x 13,x 14,x 15,x 16,x 17],H⟩) →
    ∃ m,m < s.length - i ∧ ∃ (i : Nat) (T : List D),i ≤ s.length ∧ m = s.length - i ∧ T = (b ++ 34 :: (s.take i).flatMap escB).map byteD ∧ ∃ x : Nat → AV,st = ⟨[.fslice T,.d (.str s),x 2,x 3,x 4,x 5,x 6,x 7,x 8,x 9,.fslice [],intD s.length,intD i,x 13,x 14,x 15,x 16,x 17],H⟩ :=
   fun h => ⟨s.length - (i + 1),by omega,i + 1,_,t0,rfl,by rw [hT,← hx]; simp,h⟩
  have n1 : (T.length + (0 + 1)) * 2 ≤ 70368744177664 := by omega
  have n2 : (T.length + (0 + 1 + 1)) * 2 ≤ 70368744177664 := by omega
  have n6 : (T.length + (0 + 1 + 1 + 1 + 1 + 1 + 1)) * 2 ≤ 70368744177664 := by omega
  clear hT hfl htl hx
  by_cases k1 : c = 34
  ·have c1 := u8_t (n := 34) k1 rfl
   have e : escB c = [92,c] := by unfold escB; rw [if_pos (.inl k1)]
   rw [e] at next
   refine w_r (j_ f1 (j_ hc (j_ @byteD.eq_1 (j_ hTz (j_ w1 (j_ c1 n2)))))) ?_
   exact next (ex_st _ _ _ rfl)
  have c1 := u8_f (n := 34) k1 rfl
  by_cases k2 : c = 92
  ·have c2 := u8_t (n := 92) k2 rfl
   have e : escB c = [92,c] := by unfold escB; rw [if_pos (.inr k2)]
   rw [e] at next
   refine w_r (j_ f1 (j_ hc (j_ @byteD.eq_1 (j_ hTz (j_ w1 (j_ c1 (j_ c2 n2))))))) ?_
   exact next (ex_st _ _ _ rfl)
  have c2 := u8_f (n := 92) k2 rfl
  have hne : ¬ (c = 34 ∨ c = 92) := fun h => h.elim k1 k2
  by_cases k3 : c = 8
  ·have c3 := u8_t (n := 8) k3 rfl
   have e : escB c = [92,98] := by unfold escB; rw [if_neg hne,if_pos k3]
   rw [e] at next
   refine w_r (j_ f1 (j_ hc (j_ @byteD.eq_1 (j_ hTz (j_ w1 (j_ c1 (j_ c2 (j_ c3 n2)))))))) ?_
   exact next (ex_st _ _ _ rfl)
  have c3 := u8_f (n := 8) k3 rfl
  by_cases k4 : c = 9
  ·have c4 := u8_t (n := 9) k4 rfl
   have e : escB c = [92,116] := by unfold escB; rw [if_neg hne,if_neg k3,if_pos k4]
   rw [e] at next
   refine w_r (j_ f1 (j_ hc (j_ @byteD.eq_1 (j_ hTz (j_ w1 (j_ c1 (j_ c2 (j_ c3 (j_ c4 n2))))))))) ?_
   exact next (ex_st _ _ _ rfl)
  have c4 := u8_f (n := 9) k4 rfl
  by_cases k5 : c = 10
  ·have c5 := u8_t (n := 10) k5 rfl
   have e : escB c = [92,110] := by unfold escB; rw [if_neg hne,if_neg k3,if_neg k4,if_pos k5]
   rw [e] at next
   refine w_r (j_ f1 (j_ hc (j_ @byteD.eq_1 (j_ hTz (j_ w1 (j_ c1 (j_ c2 (j_ c3 (j_ c4 (j_ c5 n2)))))))))) ?_
   exact next (ex_st _ _ _ rfl)
  have c5 := u8_f (n := 10) k5 rfl
  by_cases k6 : c = 12
  ·have c6 := u8_t (n := 12) k6 rfl
   have e : escB c = [92,102] := by unfold escB; rw [if_neg hne,if_neg k3,if_neg k4,if_neg k5,if_pos k6]
   rw [e] at next
   refine w_r (j_ f1 (j_ hc (j_ @byteD.eq_1 (j_ hTz (j_ w1 (j_ c1 (j_ c2 (j_ c3 (j_ c4 (j_ c5 (j_ c6 n2))))))))))) ?_
   exact next (ex_st _ _ _ rfl)
  have c6 := u8_f (n := 12) k6 rfl
  by_cases k7 : c = 13
  ·have c7 := u8_t (n := 13) k7 rfl
   have e : escB c = [92,114] := by unfold escB; rw [if_neg hne,if_neg k3,if_neg k4,if_neg k5,if_neg k6,if_pos k7]
   rw [e] at next
   refine w_r (j_ f1 (j_ hc (j_ @byteD.eq_1 (j_ hTz (j_ w1 (j_ c1 (j_ c2 (j_ c3 (j_ c4 (j_ c5 (j_ c6 (j_ c7 n2)))))))))))) ?_
   exact next (ex_st _ _ _ rfl)
  have c7 := u8_f (n := 13) k7 rfl
  by_cases k8 : c.toNat < 32
  ·have c8 : ((c.toNat : Int) < 32) = True := eq_true (by omega)
   have e : escB c = [92,117,48,48,hexC (c.toNat / 16),hexC (c.toNat % 16)] := by unfold escB; rw [if_neg hne,if_neg k3,if_neg k4,if_neg k5,if_neg k6,if_neg k7,if_pos k8]
   rw [e] at next
   have p1 := shr4 c.toNat
   have p2 := and15u c.toNat hcl
   have p3 := hex_at ⟨c.toNat / 16,by omega⟩
   have p4 := hex_at ⟨c.toNat % 16,by omega⟩
   simp only [hexs] at p3 p4
   refine w_r (j_ f1 (j_ hc (j_ @byteD.eq_1 (j_ hTz (j_ w1 (j_ c1 (j_ c2 (j_ c3 (j_ c4 (j_ c5 (j_ c6 (j_ c7 (j_ c8 (j_ n6 (j_ p1 (j_ p2 (j_ p3 p4))))))))))))))))) ?_
   exact next (ex_st _ _ _ rfl)
  have c8 : ((c.toNat : Int) < 32) = False := eq_false (by omega)
  have e : escB c = [c] := by unfold escB; rw [if_neg hne,if_neg k3,if_neg k4,if_neg k5,if_neg k6,if_neg k7,if_neg k8]
  rw [e] at next
  refine w_r (j_ f1 (j_ hc (j_ @byteD.eq_1 (j_ hTz (j_ w1 (j_ c1 (j_ c2 (j_ c3 (j_ c4 (j_ c5 (j_ c6 (j_ c7 (j_ c8 n1))))))))))))) ?_
  exact next (ex_st _ _ _ rfl)
 ·obtain rfl : i = s.length := by omega
  have f1 : ((s.length : Int) < (s.length : Int)) = False := eq_false (by omega)
  rw [List.take_length] at hT
  have n1 : (T.length + (0 + 1)) * 2 ≤ 70368744177664 := by omega
  have e : b ++ quoteB s = (b ++ 34 :: s.flatMap escB) ++ [34] := by unfold quoteB; simp
  rw [e,bF,List.map_append,← hT]
  clear hT e
  refine w_r (j_ f1 (j_ hTz n1)) ?_
  exact ans_cut (vs := [.fslice (T ++ [byteD 34])]) rfl rfl ⟨rfl,rfl⟩
end Go.Proofs.YtmhmjlfajlpabaaDoor
namespace Go.Proofs.YtmhmjlfajlpabaaDoor
open Go Go.Abs
theorem sumf_take {α : Type} (f : α → Nat) : ∀ {P : List α} {i : Nat} {p : α},P[i]? = some p → ((P.take i).map f).sum + f p ≤ (P.map f).sum
 | [],i,p,h => by cases h
 | a :: P,0,p,h => by
  simp only [List.getElem?_cons_zero,Option.some.injEq] at h
  subst h
  simp
 | a :: P,i + 1,p,h => by
  have := sumf_take f (P := P) (i := i) (p := p) (by simpa using h)
  simp only [List.take_succ_cons,List.map_cons,List.sum_cons]; omega
theorem map_sum {f : Nat} {j : J} (h : goodB (f + 1) j = true) (h5 : j.k = 5) : ((byKeys j.ks).map fun i => 32 * wt (j.l.getD i J.zero) + 6 * (j.ks.getD i []).length + 4).sum + 32 ≤ 32 * wt j := by
 obtain ⟨hs,ha⟩ := Bool.and_eq_true_iff.1 (show (shapedB j && j.l.all (goodB f)) = true from h)
 have hw := wt_eq j
 obtain ⟨hl,hd⟩ := shaped_map hs h5
 rw [sum_pts wt List.length,perm_sum ((byKeys_perm j.ks).map fun i => wt (j.l.getD i J.zero)),perm_sum ((byKeys_perm j.ks).map fun i => (j.ks.getD i []).length),byKeys_length]
 have e1 : (List.range j.ks.length).map (fun i => wt (j.l.getD i J.zero)) = j.l.map wt := by
  rw [hl,show (fun i => wt (j.l.getD i J.zero)) = wt ∘ (fun i => j.l.getD i J.zero) from rfl,← List.map_map,range_getD]
 have e2 : (List.range j.ks.length).map (fun i => (j.ks.getD i []).length) = j.ks.map List.length := by
  rw [show (fun i => (j.ks.getD i []).length) = List.length ∘ (fun i => j.ks.getD i []) from rfl,← List.map_map,range_getD]
 rw [e1,e2,wts_sum]
 have h3 := len_sum j.ks
 omega
theorem wMap_step {f : Nat} {j : J} (h : goodB (f + 1) j = true) (h5 : j.k = 5) (b : Tx) {i p : Nat} (hp : (byKeys j.ks)[i]? = some p) :
  (wMap (writeS f) j.ks j.l true b ((byKeys j.ks).take i)).length + 32 * wt (j.l.getD p J.zero) + 6 * (j.ks.getD p []).length + 4 + 32 ≤ b.length + 32 * wt j := by
 have hm := map_sum h h5
 obtain ⟨hs,ha⟩ := Bool.and_eq_true_iff.1 (show (shapedB j && j.l.all (goodB f)) = true from h)
 have hall : ∀ y ∈ j.l,goodB f y = true := fun y hy => List.all_eq_true.1 ha y hy
 obtain ⟨hl,hd⟩ := shaped_map hs h5
 have h1 := wMap_le (w := writeS f) (ks := j.ks) (l := j.l) ((byKeys j.ks).take i) true b fun i hi b => writeS_le f b _ (hall _ (by
  have := byKeys_lt (List.mem_of_mem_take hi)
  simp only [List.getD,List.getElem?_eq_getElem (show i < j.l.length by omega),Option.getD_some]
  exact List.getElem_mem _))
 have h2 := sumf_take (fun i => 32 * wt (j.l.getD i J.zero) + 6 * (j.ks.getD i []).length + 4) hp
 omega
theorem wMap_len {f : Nat} {j : J} (h : goodB (f + 1) j = true) (h5 : j.k = 5) (b : Tx) :
  (wMap (writeS f) j.ks j.l true b (byKeys j.ks)).length + 32 ≤ b.length + 32 * wt j := by
 have hm := map_sum h h5
 obtain ⟨hs,ha⟩ := Bool.and_eq_true_iff.1 (show (shapedB j && j.l.all (goodB f)) = true from h)
 have hall : ∀ y ∈ j.l,goodB f y = true := fun y hy => List.all_eq_true.1 ha y hy
 obtain ⟨hl,hd⟩ := shaped_map hs h5
 have h1 := wMap_le (w := writeS f) (ks := j.ks) (l := j.l) (byKeys j.ks) true b fun i hi b => writeS_le f b _ (hall _ (by
  have := byKeys_lt hi
  simp only [List.getD,List.getElem?_eq_getElem (show i < j.l.length by omega),Option.getD_some]
  exact List.getElem_mem _))
 omega
theorem wList_step {f : Nat} {j : J} (h : goodB (f + 1) j = true) (b : Tx) {i : Nat} {y : J} (hp : j.l[i]? = some y) :
  (wList (writeS f) true b (j.l.take i)).length + 32 * wt y + 32 ≤ b.length + 32 * wt j := by
 obtain ⟨hs,ha⟩ := Bool.and_eq_true_iff.1 (show (shapedB j && j.l.all (goodB f)) = true from h)
 have hall : ∀ y ∈ j.l,goodB f y = true := fun y hy => List.all_eq_true.1 ha y hy
 have hw := wt_eq j
 have h1 := wList_le (w := writeS f) (j.l.take i) true b fun y hy b => writeS_le f b _ (hall _ (List.mem_of_mem_take hy))
 have h2 := sumf_take wt hp
 rw [wts_sum,wts_sum] at h2
 omega
end Go.Proofs.YtmhmjlfajlpabaaDoor
namespace Go.Proofs.YtmhmjlfajlpabaaDoor
open Go Go.Abs Go.Lib
theorem one_row (H : AHeap) (a : AObj) (M : List AObj) : ∃ G : AObj → AHeap,(∀ q,(H ++ [a]) ++ M ++ [q] = G q) ∧ ((H ++ [a]) ++ M).length = H.length + 1 + M.length ∧ (∀ q,(G q)[H.length + 1 + M.length]? = some q) ∧ (∀ q q',(G q).set (H.length + 1 + M.length) q' = G q') := by
 refine ⟨fun q => (H ++ [a]) ++ M ++ [q],fun _ => rfl,by simp; omega,fun q => ?_,fun q q' => ?_⟩
 ·rw [List.getElem?_append_right (by simp; omega)]
  have : H.length + 1 + M.length - (H ++ [a] ++ M).length = 0 := by simp; omega
  rw [this]; rfl
 ·rw [List.set_append_right _ _ (by simp; omega)]
  have : H.length + 1 + M.length - (H ++ [a] ++ M).length = 0 := by simp; omega
  rw [this]; rfl
set_option maxHeartbeats 2000000 in
--
theorem write_ev : ∀ (n : Nat) (lim : Nat) (H : AHeap) (b : Tx) (j : J),goodB n j = true → wt j ≤ 100000000000 → b.length + 32 * wt j ≤ 9000000000000 → Ev (envN code primsF) 28 lim [bF b,.d j.d] H (bF (writeS n b j)) H
 | 0,_,_,_,_,h,_,_ => by cases h
 | n + 1,lim,H,b,j,hg,hwt,hb => by
  have hp1 := wt_pos j
  obtain ⟨hs,ha⟩ := Bool.and_eq_true_iff.1 (show (shapedB j && j.l.all (goodB n)) = true from hg)
  have hall : ∀ y ∈ j.l,goodB n y = true := fun y hy => List.all_eq_true.1 ha y hy
  have hk := wt_ks j
  have hl := wt_l j
  have hyw : ∀ y ∈ j.l,wt y ≤ 100000000000 := fun y hy => by have := wt_mem hy; omega
  refine Fn.ev ?_
  refine Fn_of (pn rfl) rfl (show code 28 = some c28 from rfl) rfl ?_; simp only [List.length_cons,List.length_nil,List.cons_append,List.nil_append,simprocAttr]
  have hjd := jd j
  have hz := headSz_bytes b
  obtain ⟨K,hK⟩ : ∃ K,H ++ [AObj.cells (jC j)] = K := ⟨_,rfl⟩
  have gK : K[H.length]? = some (.cells (jC j)) := by rw [← hK]; exact get_last _ _
  unfold writeS
  by_cases c0 : 16384 < b.length
  ·rw [if_pos c0]
   have f0 : ((b.length : Int) > 16384) = True := eq_true (by omega)
   refine w_r (j_ hjd (j_ hK (j_ f0 (@List.length_map.{0,0})))) ?_
   exact ans_cut (vs := [bF b]) rfl rfl ⟨rfl,rfl⟩
  rw [if_neg c0]
  have f0 : ((b.length : Int) > 16384) = False := eq_false (by omega)
  by_cases h1 : j.k = 1
  ·rw [if_pos h1]
   have c1 : (j.k == 1) = true := by simpa using h1
   by_cases ht : j.n = 1
   ·have ct : (j.n == 1) = true := by simpa using ht
    rw [if_pos ht]
    have a1 := boolA_ev H.length K b true (by omega)
    refine w_r (j_ hjd (j_ hK (j_ f0 (j_ gK (j_ c1 (@List.length_map.{0,0})))))) ?_
    refine w_1 a1 (j_ gK ct) ?_
    refine w_r trivial ?_
    exact ans_cut (vs := [bF (b ++ _)]) rfl rfl ⟨rfl,rfl⟩
   ·have ct : (j.n == 1) = false := by simpa using ht
    rw [if_neg ht]
    have a1 := boolA_ev H.length K b false (by omega)
    refine w_r (j_ hjd (j_ hK (j_ f0 (j_ gK (j_ c1 (@List.length_map.{0,0})))))) ?_
    refine w_1 a1 (j_ gK ct) ?_
    refine w_r trivial ?_
    exact ans_cut (vs := [bF (b ++ _)]) rfl rfl ⟨rfl,rfl⟩
  rw [if_neg h1]
  have c1 : (j.k == 1) = false := by simpa using h1
  by_cases h2 : j.k = 2
  ·rw [if_pos h2]
   have c2 : (j.k == 2) = true := by simpa using h2
   obtain ⟨r1,r2⟩ := shaped_num hs h2
   have a1 := intA_ev H.length K b j.n r1 r2 (by omega)
   refine w_r (j_ hjd (j_ hK (j_ f0 (j_ gK (j_ c1 (j_ c2 (@List.length_map.{0,0}))))))) ?_
   refine w_1 a1 gK ?_
   refine w_r trivial ?_
   exact ans_cut (vs := [bF (b ++ _)]) rfl rfl ⟨rfl,rfl⟩
  rw [if_neg h2]
  have c2 : (j.k == 2) = false := by simpa using h2
  by_cases h3 : j.k = 3
  ·rw [if_pos h3]
   have c3 : (j.k == 3) = true := by simpa using h3
   have htl := wt_t j
   have a1 := quote_ev H.length K b j.t (by omega) (by omega)
   refine w_r (j_ hjd (j_ hK (j_ f0 (j_ gK (j_ c1 (j_ c2 (j_ c3 (@List.length_map.{0,0})))))))) ?_
   refine w_1 a1 gK ?_
   refine w_r trivial ?_
   exact ans_cut (vs := [bF (b ++ _)]) rfl rfl ⟨rfl,rfl⟩
  rw [if_neg h3]
  have c3 : (j.k == 3) = false := by simpa using h3
  have n1 : (b.length + (0 + 1)) * 2 ≤ 70368744177664 := by omega
  have n4 : (b.length + (0 + 1 + 1 + 1 + 1)) * 2 ≤ 70368744177664 := by omega
  by_cases h4 : j.k = 4
  ·rw [if_pos h4]
   have c4 : (j.k == 4) = true := by simpa using h4
   refine w_r (j_ hjd (j_ hK (j_ f0 (j_ gK (j_ c1 (j_ c2 (j_ c3 (j_ c4 (j_ hz (j_ n1 (@List.length_map.{0,0}))))))))))) ?_
   refine W_lp (fun k st => ∃ (i : Nat) (T : List D) (M : List AObj),i ≤ j.l.length ∧ k = j.l.length - i ∧ T = (wList (writeS n) true (b ++ [91]) (j.l.take i)).map byteD ∧ ∃ x : Nat → AV,st = ⟨[.fslice T,x 1,x 2,x 3,x 4,x 5,x 6,x 7,x 8,x 9,x 10,x 11,.fslice [],.ptr H.length 0,x 14,.d (jsD j.l),intD j.l.length,intD i,x 18,x 19,x 20,x 21,x 22,x 23,x 24,x 25,x 26,x 27],K ++ M⟩) ?_ _ _ ⟨0,_,[],Nat.zero_le _,rfl,by simp [wList,byteD],ex_stH (by rw [List.append_nil]) rfl⟩
   rintro k _ ⟨i,T,M,hi,rfl,hT,x,rfl⟩
   have hTz : headSz 1 T = true := by rw [hT]; exact headSz_bytes _
   by_cases t0 : i < j.l.length
   ·have f1 : ((i : Int) < (j.l.length : Int)) = True := eq_true (by omega)
    have w1 : IntKind.i64.wrap ((i : Int) + 1) = ((i + 1 : Nat) : Int) := wsucc (by omega)
    obtain ⟨y,hy⟩ : ∃ y,j.l[i]? = some y := ⟨_,List.getElem?_eq_getElem t0⟩
    have hyd := jd y
    have hstep := wList_step hg (b ++ [91]) hy
    have hsn := wList_snoc (writeS n) (j.l.take i) true (b ++ [91]) y
    rw [show j.l.take i ++ [y] = j.l.take (i + 1) by rw [List.take_add_one,hy]; rfl] at hsn
    have hym := List.mem_of_getElem? hy
    have ih := fun (L : Nat) (H : AHeap) (c : Tx) (hc : c.length + 32 * wt y ≤ 9000000000000) => write_ev n L H c y (hall y hym) (hyw y hym) hc
    simp only [hyd] at ih
    obtain ⟨W0,hW0⟩ : ∃ W0,wList (writeS n) true (b ++ [91]) (j.l.take i) = W0 := ⟨_,rfl⟩
    obtain ⟨W1,hW1⟩ : ∃ W1,wList (writeS n) true (b ++ [91]) (j.l.take (i + 1)) = W1 := ⟨_,rfl⟩
    rw [hW0] at hstep hsn hT
    rw [hW1] at hsn
    simp only [List.length_append,List.length_cons,List.length_nil] at hstep
    have hTl : T.length = W0.length := by rw [hT,List.length_map]
    obtain ⟨G,gg,gl,g0,g4⟩ := one_row H (.cells (jC j)) M
    rw [hK] at gg gl
    have hll3 : H.length ≤ H.length + 1 + M.length := by omega
    by_cases hi0 : i = 0
    ·have f2 : ((i : Int) > 0) = False := eq_false (by omega)
     have he : (j.l.take i).isEmpty = true := by subst hi0; rfl
     rw [he] at hsn
     have a1 := ih H.length (G (.cells (jC y))) W0 (by omega)
     rw [show writeS n W0 y = W1 from hsn.symm,bF,← hT] at a1
     refine w_r (j_ f1 (j_ f2 (j_ hy (j_ hyd (j_ gg (j_ gl (j_ g0 (j_ g4 hll3)))))))) ?_
     refine w_1 a1 g0 ?_
     refine w_r w1 ?_
     exact ⟨j.l.length - (i + 1),by omega,i + 1,_,M ++ [.cells (jC y)],t0,rfl,by rw [hW1],ex_stH (by rw [← List.append_assoc,gg]) rfl⟩
    ·have f2 : ((i : Int) > 0) = True := eq_true (by omega)
     have he : (j.l.take i).isEmpty = false := by
      cases h : (j.l.take i).isEmpty with
      | false => rfl
      | true => have := congrArg List.length (List.isEmpty_iff.1 h); rw [List.length_take,List.length_nil] at this; omega
     rw [he] at hsn
     have a1 := ih H.length (G (.cells (jC y))) (W0 ++ [44]) (by rw [List.length_append]; show W0.length + 1 + 32 * wt y ≤ _; omega)
     rw [show writeS n (W0 ++ [44]) y = W1 from hsn.symm,show bF (W0 ++ [44]) = .fslice (T ++ [D.int .u8 44]) by rw [hT]; simp [bF,byteD]] at a1
     have m1 : (T.length + (0 + 1)) * 2 ≤ 70368744177664 := by omega
     refine w_r (j_ f1 (j_ f2 (j_ hy (j_ hyd (j_ gg (j_ gl (j_ g0 (j_ g4 (j_ hll3 (j_ hTz m1)))))))))) ?_
     refine w_1 a1 g0 ?_
     refine w_r w1 ?_
     exact ⟨j.l.length - (i + 1),by omega,i + 1,_,M ++ [.cells (jC y)],t0,rfl,by rw [hW1],ex_stH (by rw [← List.append_assoc,gg]) rfl⟩
   ·obtain rfl : i = j.l.length := by omega
    have f1 : ((j.l.length : Int) < (j.l.length : Int)) = False := eq_false (by omega)
    rw [List.take_length] at hT
    have hle := wList_le (w := writeS n) j.l true (b ++ [91]) fun y hy b => writeS_le n b y (hall y hy)
    have hw := wt_eq j
    obtain ⟨W0,hW0⟩ : ∃ W0,wList (writeS n) true (b ++ [91]) j.l = W0 := ⟨_,rfl⟩
    rw [hW0] at hle hT ⊢
    simp only [List.length_append,List.length_cons,List.length_nil] at hle
    have m1 : (T.length + (0 + 1)) * 2 ≤ 70368744177664 := by rw [hT,List.length_map]; omega
    refine w_r (j_ f1 (j_ hTz m1)) ?_
    exact ans_cut (vs := [.fslice (T ++ [D.int .u8 93])]) rfl rfl ⟨by rw [hT]; simp [bF,byteD],rfl⟩
  rw [if_neg h4]
  have c4 : (j.k == 4) = false := by simpa using h4
  by_cases h5 : j.k = 5
  ·rw [if_pos h5]
   have c5 : (j.k == 5) = true := by simpa using h5
   obtain ⟨hkl,hnd⟩ := shaped_map hs h5
   refine w_r (j_ hjd (j_ hK (j_ f0 (j_ gK (j_ c1 (j_ c2 (j_ c3 (j_ c4 (j_ c5 (j_ hz (j_ n1 (@List.length_map.{0,0})))))))))))) ?_
   have hpl := places_ev (pr := primsF) H.length K j.ks (by omega) hnd
   obtain ⟨P,hP⟩ : ∃ P,byKeys j.ks = P := ⟨_,rfl⟩
   have hPl := byKeys_length j.ks
   have hPm : ∀ i ∈ P,i < j.ks.length := fun i hi => byKeys_lt (hP ▸ hi)
   rw [hP] at hpl hPl
   have hst := fun (i p : Nat) (h : (byKeys j.ks)[i]? = some p) => wMap_step hg h5 (b ++ [123]) h
   rw [hP] at hst ⊢
   refine w_1 hpl (j_ gK (@List.length_map.{0,0})) ?_
   refine w_r trivial ?_
   refine W_lp (fun k st => ∃ (i : Nat) (T : List D),i ≤ P.length ∧ k = P.length - i ∧ T = (wMap (writeS n) j.ks j.l true (b ++ [123]) (P.take i)).map byteD ∧ ∃ x : Nat → AV,st = ⟨[.fslice T,x 1,x 2,x 3,x 4,x 5,x 6,x 7,x 8,x 9,x 10,x 11,.fslice [],.ptr H.length 0,x 14,x 15,x 16,x 17,x 18,x 19,.d (.slice (P.map fun (i : Nat) => D.int .i64 (i : Int))),intD P.length,intD i,x 23,x 24,x 25,x 26,x 27],K⟩) ?_ _ _ ⟨0,_,Nat.zero_le _,rfl,by simp [wMap,byteD],ex_st _ _ _ rfl⟩
   rintro k _ ⟨i,T,hi,rfl,hT,x,rfl⟩
   have hTz : headSz 1 T = true := by rw [hT]; exact headSz_bytes _
   by_cases t0 : i < P.length
   ·have f1 : ((i : Int) < (P.length : Int)) = True := eq_true (by omega)
    have w1 : IntKind.i64.wrap ((i : Int) + 1) = ((i + 1 : Nat) : Int) := wsucc (by omega)
    obtain ⟨p,hp⟩ : ∃ p,P[i]? = some p := ⟨_,List.getElem?_eq_getElem t0⟩
    have hpk := hPm p (List.mem_of_getElem? hp)
    obtain ⟨s,hs'⟩ : ∃ s,j.ks[p]? = some s := ⟨_,List.getElem?_eq_getElem hpk⟩
    obtain ⟨y,hy⟩ : ∃ y,j.l[p]? = some y := ⟨_,List.getElem?_eq_getElem (by omega)⟩
    have hyd := jd y
    have hstep := hst i p hp
    have hsn := wMap_snoc (writeS n) j.ks j.l (P.take i) true (b ++ [123]) p
    rw [show P.take i ++ [p] = P.take (i + 1) by rw [List.take_add_one,hp]; rfl] at hsn
    have g1 : j.ks.getD p [] = s := by simp [List.getD,hs']
    have g2 : j.l.getD p J.zero = y := by simp [List.getD,hy]
    rw [g1,g2] at hsn hstep
    have hym := List.mem_of_getElem? hy
    have ih := fun (L : Nat) (H : AHeap) (c : Tx) (hc : c.length + 32 * wt y ≤ 9000000000000) => write_ev n L H c y (hall y hym) (hyw y hym) hc
    simp only [hyd] at ih
    obtain ⟨W0,hW0⟩ : ∃ W0,wMap (writeS n) j.ks j.l true (b ++ [123]) (P.take i) = W0 := ⟨_,rfl⟩
    obtain ⟨W1,hW1⟩ : ∃ W1,wMap (writeS n) j.ks j.l true (b ++ [123]) (P.take (i + 1)) = W1 := ⟨_,rfl⟩
    rw [hW0] at hstep hsn hT
    rw [hW1] at hsn
    simp only [List.length_append,List.length_cons,List.length_nil] at hstep
    have hTl : T.length = W0.length := by rw [hT,List.length_map]
    have hql := quoteB_len s
    have hsl : s.length ≤ 100000000000 := by have := wt_key (List.mem_of_getElem? hs'); omega
    by_cases hi0 : i = 0
    ·have f2 : ((i : Int) > 0) = False := eq_false (by omega)
     have he : (P.take i).isEmpty = true := by subst hi0; rfl
     rw [he] at hsn
     have aq := quote_ev H.length K W0 s (by omega) (by omega)
     obtain ⟨U,hU⟩ : ∃ U,(W0 ++ quoteB s).map byteD = U := ⟨_,rfl⟩
     have hUl : U.length ≤ W0.length + 1 + 6 * s.length + 2 := by rw [← hU,List.length_map,List.length_append]; omega
     have hUz : headSz 1 U = true := by rw [← hU]; exact headSz_bytes _
     have aw := ih H.length K (W0 ++ quoteB s ++ [58]) (by rw [List.length_append,List.length_append]; show W0.length + _ + 1 + 32 * wt y ≤ _; omega)
     rw [show writeS n (W0 ++ quoteB s ++ [58]) y = W1 from hsn.symm,show bF (W0 ++ quoteB s ++ [58]) = .fslice (U ++ [D.int .u8 58]) by rw [← hU]; simp [bF,byteD]] at aw
     rw [bF,bF,hU,← hT] at aq
     have m2 : (U.length + (0 + 1)) * 2 ≤ 70368744177664 := by omega
     clear hU
     refine w_r (j_ f1 (j_ f2 hp)) ?_
     refine w_2 aq aw (j_ gK (j_ hs' (j_ hy (j_ hyd (j_ hUz m2))))) ?_
     refine w_r w1 ?_
     exact ⟨P.length - (i + 1),by omega,i + 1,_,t0,rfl,by rw [hW1],ex_st _ _ _ rfl⟩
    ·have f2 : ((i : Int) > 0) = True := eq_true (by omega)
     have he : (P.take i).isEmpty = false := by
      cases h : (P.take i).isEmpty with
      | false => rfl
      | true => have := congrArg List.length (List.isEmpty_iff.1 h); rw [List.length_take,List.length_nil] at this; omega
     rw [he] at hsn
     have hc44 : (W0 ++ [44]).length = W0.length + 1 := by simp
     have aq := quote_ev H.length K (W0 ++ [44]) s (by omega) (by omega)
     obtain ⟨U,hU⟩ : ∃ U,(W0 ++ [44] ++ quoteB s).map byteD = U := ⟨_,rfl⟩
     have hUl : U.length ≤ W0.length + 1 + 6 * s.length + 2 := by rw [← hU,List.length_map,List.length_append]; omega
     have hUz : headSz 1 U = true := by rw [← hU]; exact headSz_bytes _
     have aw := ih H.length K (W0 ++ [44] ++ quoteB s ++ [58]) (by rw [List.length_append,List.length_append]; show (W0 ++ [44]).length + _ + 1 + 32 * wt y ≤ _; omega)
     rw [show writeS n (W0 ++ [44] ++ quoteB s ++ [58]) y = W1 from hsn.symm,show bF (W0 ++ [44] ++ quoteB s ++ [58]) = .fslice (U ++ [D.int .u8 58]) by rw [← hU]; simp [bF,byteD]] at aw
     rw [show bF (W0 ++ [44]) = .fslice (T ++ [D.int .u8 44]) by rw [hT]; simp [bF,byteD],bF,hU] at aq
     have m1 : (T.length + (0 + 1)) * 2 ≤ 70368744177664 := by omega
     have m2 : (U.length + (0 + 1)) * 2 ≤ 70368744177664 := by omega
     clear hU
     refine w_r (j_ f1 (j_ f2 (j_ hp (j_ hTz m1)))) ?_
     refine w_2 aq aw (j_ gK (j_ hs' (j_ hy (j_ hyd (j_ hUz m2))))) ?_
     refine w_r w1 ?_
     exact ⟨P.length - (i + 1),by omega,i + 1,_,t0,rfl,by rw [hW1],ex_st _ _ _ rfl⟩
   ·obtain rfl : i = P.length := by omega
    have f1 : ((P.length : Int) < (P.length : Int)) = False := eq_false (by omega)
    rw [List.take_length] at hT
    have hle := wMap_len hg h5 (b ++ [123])
    rw [hP] at hle
    obtain ⟨W0,hW0⟩ : ∃ W0,wMap (writeS n) j.ks j.l true (b ++ [123]) P = W0 := ⟨_,rfl⟩
    rw [hW0] at hle hT ⊢
    simp only [List.length_append,List.length_cons,List.length_nil] at hle
    have m1 : (T.length + (0 + 1)) * 2 ≤ 70368744177664 := by rw [hT,List.length_map]; omega
    refine w_r (j_ f1 (j_ hTz m1)) ?_
    exact ans_cut (vs := [.fslice (T ++ [D.int .u8 125])]) rfl rfl ⟨by rw [hT]; simp [bF,byteD],rfl⟩
  rw [if_neg h5]
  have c5 : (j.k == 5) = false := by simpa using h5
  refine w_r (j_ hjd (j_ hK (j_ f0 (j_ gK (j_ c1 (j_ c2 (j_ c3 (j_ c4 (j_ c5 (j_ hz (j_ n4 (@List.length_map.{0,0})))))))))))) ?_
  exact ans_cut (vs := [bF (b ++ [110,117,108,108])]) (by simp only [resV,zz,simprocAttr]; simp [bF,byteD]) rfl ⟨rfl,rfl⟩
theorem Order_ev (lim : Nat) (H : AHeap) (j : J) (hw : wt j ≤ 100000000000) : Ev (envN code primsF) 21 lim [.d j.d] H (.d (orderS j).d) H := by
 refine Fn.ev ?_
 refine Fn_of (pn rfl) rfl (show code 21 = some c21 from rfl) rfl ?_; simp only [List.length_cons,List.length_nil,List.cons_append,List.nil_append,simprocAttr]
 have hjd := jd j
 obtain ⟨K,kk,g1,g2,s1,s2⟩ : ∃ K : AObj → AHeap,(∀ o,H ++ [AObj.cells (jC j)] ++ [o] = K o) ∧ (∀ o,(K o)[H.length]? = some (.cells (jC j))) ∧ (∀ o,(K o)[H.length + 1]? = some o) ∧ (H ++ [AObj.cells (jC j)]).length = H.length + 1 ∧ (∀ o o',(K o).set (H.length + 1) o' = K o') :=
  ⟨fun o => H ++ [AObj.cells (jC j)] ++ [o],fun _ => rfl,fun o => by simp,fun o => by simp,by simp,fun o o' => by simp⟩
 have hll : H.length ≤ H.length + 1 := by omega
 have hg := Good_ev H.length (K zO) j hw
 simp only [hjd] at hg
 unfold orderS
 (iterate 2 refine w_s (j_ hjd (j_ kk s1)) ?_)
 cases hgo : goodB 12 j with
 | false =>
  rw [hgo] at hg
  refine w_r g1 ?_
  refine w_1 hg g1 ?_
  refine w_r (j_ g2 (j_ s2 hll)) ?_
  refine ans_cut (vs := [.d J.zero.d]) ?_ rfl ⟨rfl,rfl⟩
  rw [jd]
  simp only [resV,zz,simprocAttr,g2]; rfl
 | true =>
  rw [hgo] at hg
  have ho := ordered_ev (pr := primsF) 12 H.length (K zO) j (good_ord hgo) hw
  simp only [hjd] at ho
  have hod := jd (orderJ j)
  rw [hod] at ho
  refine w_r g1 ?_
  refine w_1 hg g1 ?_
  refine w_r (j_ g1 g2) ?_
  refine w_1 ho (j_ g1 (j_ g2 (j_ s2 hll))) ?_
  refine w_r trivial ?_
  refine ans_cut (vs := [.d (orderJ j).d]) ?_ rfl ⟨rfl,rfl⟩
  rw [hod]
  simp only [resV,zz,simprocAttr,g2]
theorem Encode_ev (lim : Nat) (H : AHeap) (j : J) (hw : wt j ≤ 100000000000) : Ev (envN code primsF) 12 lim [.d j.d] H (encV (encodeS j)) H := by
 refine Fn.ev ?_
 refine Fn_of (pn rfl) rfl (show code 12 = some c12 from rfl) rfl ?_; simp only [List.length_cons,List.length_nil,List.cons_append,List.nil_append,simprocAttr]
 have hjd := jd j
 obtain ⟨K,hK⟩ : ∃ K,H ++ [AObj.cells (jC j)] = K := ⟨_,rfl⟩
 have gK : K[H.length]? = some (.cells (jC j)) := by rw [← hK]; exact get_last _ _
 have hg := Good_ev H.length K j hw
 simp only [hjd] at hg
 cases hgo : goodB 12 j with
 | false =>
  unfold encodeS
  rw [hgo] at hg ⊢
  refine w_r (j_ hjd (j_ hK gK)) ?_
  refine w_1 hg gK ?_
  refine w_r trivial ?_
  exact ans_cut (vs := [.fslice [],intD 1]) rfl rfl ⟨rfl,rfl⟩
 | true =>
  rw [hgo] at hg
  rw [encode_write hgo]
  have ht := write_ev 12 H.length K [] j hgo hw (by simp; omega)
  rw [hjd,show bF [] = .fslice [] from rfl] at ht
  generalize writeS 12 [] j = T at *
  refine w_r (j_ hjd (j_ hK gK)) ?_
  refine w_1 hg gK ?_
  refine w_r gK ?_
  refine w_1 ht gK ?_
  by_cases hl : 16384 < T.length
  ·have f1 : ((T.length : Int) > 16384) = True := eq_true (by omega)
   rw [if_pos hl]
   refine w_r (j_ f1 (@List.length_map.{0,0})) ?_
   exact ans_cut (vs := [.fslice [],intD 13]) rfl rfl ⟨rfl,rfl⟩
  ·have f1 : ((T.length : Int) > 16384) = False := eq_false (by omega)
   rw [if_neg hl]
   refine w_r (j_ f1 (@List.length_map.{0,0})) ?_
   exact ans_cut (vs := [bF T,intD 0]) rfl rfl ⟨rfl,rfl⟩
end Go.Proofs.YtmhmjlfajlpabaaDoor
namespace Go.Proofs.YtmhmjlfajlpabaaDoor
open Go Go.Abs
section
variable {s : Tx}
def valD (ds : Tx) (n : Nat) : Nat := ds.foldl (fun n c => 10 * n + (c.toNat - 48)) n
def Ends (r : Tx) : Prop := ∀ c r',r = c :: r' → c = 44 ∨ c = 93 ∨ c = 125
end
end Go.Proofs.YtmhmjlfajlpabaaDoor
namespace Go.Proofs.YtmhmjlfajlpabaaDoor
open Go Go.Abs
def Starts (c : UInt8) : Prop := isBlank c = false ∧ c ≠ 93 ∧ c ≠ 125 ∧ c ≠ 44
section
variable {s : Tx}
end
end Go.Proofs.YtmhmjlfajlpabaaDoor
namespace Go.Proofs.YtmhmjlfajlpabaaDoor
open Go Go.Abs Go.Lib
def Let (x : Tx) : Prop := (dc x).2 = x.length ∧ dc x ≠ (65533,1)
def U8 (s : Tx) : Prop := ∃ X : List Tx,(∀ x ∈ X,Let x) ∧ s = X.flatten
end Go.Proofs.YtmhmjlfajlpabaaDoor
namespace Go.Proofs.YtmhmjlfajlpabaaDoor
open Go Go.Abs Go.Lib
theorem awake_ev (lim : Nat) (H : AHeap) : Ev (envN code primsF) 11 lim [] H (boolD true) H := Ev_prim (F := awakeF) rfl rfl
theorem same_self (lim : Nat) (H : AHeap) {a : J} (ha : wt a ≤ 100000000000) : Ev (envN code primsF) 14 lim [.d a.d,.d a.d] H (boolD true) H := by
 have := Same_ev (wt a) lim H a a (Nat.le_refl _) ha ha
 rwa [sJ_self] at this
theorem wt_zero : wt J.zero = 1 := by rw [wt_eq]; rfl
theorem wt_orderS {j : J} (h : wt j ≤ 100000000000) : wt (orderS j) ≤ 100000000000 := by
 unfold orderS
 split
 ·rename_i hg; rw [wt_order (good_ord hg)]; exact h
 ·rw [wt_zero]; omega
theorem encodes_law (lim : Nat) (H : AHeap) (j : J) : Ev (envN code primsF) 8 lim [.d j.d] H (boolD true) H := by
 refine Fn.ev ?_
 refine Fn_of (pn rfl) rfl (show code 8 = some c8 from rfl) rfl ?_; simp only [List.length_cons,List.length_nil,List.cons_append,List.nil_append,simprocAttr]
 have hjd := jd j
 obtain ⟨K,hK⟩ : ∃ K,H ++ [AObj.cells (jC j)] = K := ⟨_,rfl⟩
 have gK : K[H.length]? = some (.cells (jC j)) := by rw [← hK]; exact get_last _ _
 have hs := small_ev H.length K j
 rw [hjd] at hs
 refine w_r (j_ hjd (j_ hK gK)) ?_
 by_cases hf : 0 ≤ leftI 30 j 2000
 ·rw [decide_eq_true hf] at hs
  have hw : wt j ≤ 100000000000 := by have := few_wt hf; omega
  have ho := wt_orderS hw
  have a1 := Encode_ev H.length K j hw
  have a2 := EncodeR_ev H.length K j hw
  have a3 := Good_ev H.length K j hw
  have a4 := GoodR_ev H.length K j hw
  have a5 := Order_ev H.length K j hw
  have a6 := OrderR_ev H.length K j hw
  have a7 := same_self H.length K ho
  have a8 := awake_ev H.length K
  have hod := jd (orderS j)
  rw [hjd] at a1 a2 a3 a4
  rw [hjd,hod] at a5 a6
  rw [hod] at a7
  refine w_1 hs gK ?_
  refine w_r trivial ?_
  cases he : encodeS j with
  | error c =>
   rw [he] at a1 a2
   simp only [encV] at a1 a2
   have hb0 : bytesOf [] = some [] := rfl
   refine w_1 a1 gK ?_
   refine W_sq ?_
   refine w_1 a2 gK ?_
   refine W_sq ?_
   refine w_6 a3 a4 a5 a6 a7 a8 (j_ gK hb0) ?_
   refine w_r trivial ?_
   exact ans_cut (vs := [boolD true]) rfl rfl ⟨rfl,rfl⟩
  | ok e =>
   rw [he] at a1 a2
   simp only [encV] at a1 a2
   refine w_1 a1 gK ?_
   refine W_sq ?_
   refine w_1 a2 gK ?_
   refine W_sq ?_
   refine w_6 a3 a4 a5 a6 a7 a8 gK ?_
   refine w_r trivial ?_
   exact ans_cut (vs := [boolD true]) rfl rfl ⟨rfl,rfl⟩
 ·rw [decide_eq_false hf] at hs
  refine w_1 hs gK ?_
  refine w_r trivial ?_
  exact ans_cut (vs := [boolD true]) rfl rfl ⟨rfl,rfl⟩
abbrev jA (j : J) : AV := .d (.agg [.int .i64 j.k,.int .i64 j.n,.str j.t,sD j.ks,jsD j.l])
theorem encodes_law2 (lim : Nat) (H : AHeap) (j : J) : Ev (envN code primsF) 8 lim [jA j] H (boolD true) H := by have := encodes_law lim H j; rwa [jd] at this
theorem tab0_at {k : Nat} (h : k < 256) : tab0[k]? = some (.int .u8 (firstT k : Nat)) := by
 have := tab0_get h
 rw [List.getElem?_drop,Nat.add_zero] at this; exact this
theorem tab1_eq : tab1 = (List.range 16).flatMap fun i => [.int .u8 (accLo i : Nat),.int .u8 (accHi i : Nat)] := by kernel_rfl
theorem pairs_at {f g : Nat → D} : ∀ (n i : Nat),i < n → ((List.range n).flatMap fun i => [f i,g i])[2 * i]? = some (f i) ∧ ((List.range n).flatMap fun i => [f i,g i])[2 * i + 1]? = some (g i) := by
 have hlen : ∀ n,((List.range n).flatMap fun i => [f i,g i]).length = 2 * n := fun n => by
  induction n with
  | zero => rfl
  | succ n ih => rw [List.range_succ,List.flatMap_append,List.length_append,ih]; simp; omega
 intro n
 induction n with
 | zero => intro i hi; omega
 | succ n ih =>
  intro i hi
  rw [List.range_succ,List.flatMap_append]
  by_cases h : i < n
  ·obtain ⟨a,b⟩ := ih i h
   rw [List.getElem?_append_left (by rw [hlen]; omega),List.getElem?_append_left (by rw [hlen]; omega)]
   exact ⟨a,b⟩
  ·obtain rfl : i = n := by omega
   rw [List.getElem?_append_right (by rw [hlen]; omega),List.getElem?_append_right (by rw [hlen]; omega),hlen,Nat.sub_self,show 2 * i + 1 - 2 * i = 1 from by omega]
   exact ⟨rfl,rfl⟩
theorem tab1_get (i : Nat) (h : i < 16) : tab1[2 * i]? = some (.int .u8 (accLo i : Nat)) ∧ tab1[2 * i + 1]? = some (.int .u8 (accHi i : Nat)) := by
 rw [tab1_eq]; exact pairs_at 16 i h
def Pow10 (w : World) : Prop := ∀ k,k < 20 → w.cell? ⟨3,k,none⟩ = some (.int .u64 ((10 ^ k : Nat) : Int))
theorem tabOK_of {w : World} (h : Lib.Utf8Tabs 0 1 w) (h2 : Pow10 w) : TabOK w := by
 intro n cs hn
 obtain ⟨h0,h1⟩ := h
 simp only [Tab.tab] at hn
 by_cases n0 : n = 0
 ·subst n0
  rw [if_pos rfl] at hn
  cases hn
  have hl : tab0.length = 256 := by rw [tab0_eq]; simp
  refine VR.pref tab0 0 0 (fun k => .int .u8 (firstT k : Nat)) ?_ (fun k hk => ?_) (fun k c hk => ?_)
  ·intro c hc
   rw [tab0_eq] at hc
   obtain ⟨_,_,rfl⟩ := List.mem_map.1 hc
   rfl
  ·rw [Nat.zero_add]
   have := h0 k (by omega)
   exact ⟨cellAt_size this,this⟩
  ·have hk2 : k < 256 := by have := (List.getElem?_eq_some_iff.1 hk).1; omega
   rw [tab0_at hk2] at hk
   cases hk
   exact .int _ _
 ·rw [if_neg n0] at hn
  by_cases n1 : n = 1
  ·subst n1
   rw [if_pos rfl] at hn
   cases hn
   have hl : tab1.length = 32 := rfl
   refine VR.pref tab1 1 0 (fun k => if k % 2 = 0 then .int .u8 (accLo (k / 2)) else .int .u8 (accHi (k / 2))) ?_ (fun k hk => ?_) (fun k c hk => ?_)
   ·intro c hc
    have : tab1.all D.isCell = true := rfl
    exact List.all_eq_true.1 this c hc
   ·rw [Nat.zero_add]
    have := h1 (k / 2) (by omega)
    by_cases e : k % 2 = 0
    ·simp only [if_pos e]
     have e2 : 2 * (k / 2) = k := by omega
     rw [e2] at this
     exact ⟨cellAt_size this.1,this.1⟩
    ·simp only [if_neg e]
     have e2 : 2 * (k / 2) + 1 = k := by omega
     rw [e2] at this
     exact ⟨cellAt_size this.2,this.2⟩
   ·have hk2 : k < 32 := by have := (List.getElem?_eq_some_iff.1 hk).1; omega
    have := tab1_get (k / 2) (by omega)
    by_cases e : k % 2 = 0
    ·simp only [if_pos e]
     have e2 : 2 * (k / 2) = k := by omega
     simp only [e2] at this
     rw [this.1] at hk; cases hk; exact .int _ _
    ·simp only [if_neg e]
     have e2 : 2 * (k / 2) + 1 = k := by omega
     simp only [e2] at this
     rw [this.2] at hk; cases hk; exact .int _ _
  ·rw [if_neg n1] at hn
   by_cases n3 : n = 3
   ·subst n3
    rw [if_pos rfl] at hn
    cases hn
    have hl : tab3.length = 20 := rfl
    refine VR.pref tab3 3 0 (fun k => .int .u64 ((10 ^ k : Nat) : Int)) ?_ (fun k hk => ?_) (fun k c hk => ?_)
    ·intro c hc
     obtain ⟨_,_,rfl⟩ := List.mem_map.1 hc
     rfl
    ·rw [Nat.zero_add]
     have := h2 k (by omega)
     exact ⟨cellAt_size this,this⟩
    ·have hk2 : k < 20 := by have := (List.getElem?_eq_some_iff.1 hk).1; omega
     unfold tab3 at hk
     rw [List.getElem?_map,List.getElem?_range hk2] at hk
     cases hk; exact .int _ _
   ·rw [if_neg n3] at hn; cases hn
def ren : Go.Shelf.Ren := ⟨fun x => x,fun t => if t = 119 then 89 else if t = 138 then 91 else if t = 139 then 92 else t,fun g => g - 3⟩
theorem types : U8Types Tryd.prog ren := ⟨by kernel_rfl,by kernel_rfl,by kernel_rfl,by kernel_rfl⟩
theorem extra : U8Extra Tryd.prog ren := ⟨by kernel_rfl,by kernel_rfl,by kernel_rfl,by kernel_rfl,by kernel_rfl,by kernel_rfl,by kernel_rfl⟩
theorem first_eq : Go.Pinned.utf8First = firstData := by kernel_rfl
theorem accept_eq : (Rows.laid_unicode_utf8_acceptRanges : DataW Unit) = acceptData := by kernel_rfl
def laidT : List (String × DataW Unit) := [("math/bits.deBruijn32tab",Rows.laid_math_bits_deBruijn32tab),("math/bits.deBruijn64tab",Rows.laid_math_bits_deBruijn64tab),("internal/strconv.uint64pow10",Rows.laid_internal_strconv_uint64pow10),("unicode/utf8.acceptRanges",Rows.laid_unicode_utf8_acceptRanges),("unicode/utf8.first",Rows.laid_unicode_utf8_first)]
theorem pow_eq : (Rows.laid_internal_strconv_uint64pow10 : DataW Unit) = tabData .u64 pow10Tab := by kernel_rfl
theorem pow_of {w : World} (h : VarReads Tryd.prog w "internal/strconv.uint64pow10" (tabData .u64 pow10Tab)) : Pow10 w := by
 obtain ⟨g,t,cs,fuel,p,h1,h2,h3,h4⟩ := h
 have e1 : Tryd.prog.globalNamed "internal/strconv.uint64pow10" = some 3 := by kernel_rfl
 rw [e1] at h1
 cases h1
 have e2 : (Tryd.prog.globals[3]?).map (·.type) = some 127 := by kernel_rfl
 rw [e2] at h2
 cases h2
 have hc := cells_of_tab (n := 20) (e := 98) (by kernel_rfl) (by kernel_rfl) (by kernel_rfl) (by kernel_rfl) h4
 have hti : TabIs Tryd.prog w "internal/strconv.uint64pow10" .u64 pow10Tab := by
  unfold TabIs
  rw [h3,← hc]
 intro k hk
 have := hti.cell e1 k (by rw [pow10Tab_length]; exact hk)
 rwa [pow10Tab_at k hk] at this
theorem tabs_of_laid {w : World} (h : laidMet Tryd.prog laidT w) : TabOK w := by
 have h5 := Lib.laidMet.reads h (n := "internal/strconv.uint64pow10") (d := Rows.laid_internal_strconv_uint64pow10) (by simp [laidT])
 rw [pow_eq] at h5
 refine tabOK_of ?_ (pow_of h5)
 have h3 := Lib.laidMet.reads h (n := "unicode/utf8.first") (d := Rows.laid_unicode_utf8_first) (by simp [laidT])
 have h4 := Lib.laidMet.reads h (n := "unicode/utf8.acceptRanges") (d := Rows.laid_unicode_utf8_acceptRanges) (by simp [laidT])
 have e : (Rows.laid_unicode_utf8_first : DataW Unit) = firstData := first_eq
 rw [e] at h3
 rw [accept_eq] at h4
 exact utf8Tabs_of_readsT types extra h3 h4
end Go.Proofs.YtmhmjlfajlpabaaDoor
namespace Go.Abs
open Go.RowKit
def RowAt (v v' : Value) (s : Nat) : Prop := v'.ownBlock = v.ownBlock ∨ ∃ k, v'.ownBlock = some k ∧ s ≤ k
section
variable {P : Program} (w : World)
theorem run_append_ownP (t ty e : TypeId) (i : TypeInfo) (z : Value) (size bytes : Nat) (ht : P.underlying t = some (.slice e)) (hi : P.info? e = some i) (hz : i.zero = some z)
  (hsize : i.size = size) (hby : i.bytes = bytes) (hzs : z.cells.size = size) (hsz : 0 < size)
  (v : Value) (n : Nat) (xs : List Value) (hown : w.ownsRowF 0 e size v n xs)
  (a : Addr) (m c : Nat) (news : List Value) (hl : news.length = m * size) (hnews : ∀ j u, news[j]? = some u → w.cell? (a.add j) = some u) (h1 : ∀ u ∈ news, u.oneCell' = true)
  (h63 : n + m ≤ maxLen) (hbytes : (n + m) * bytes ≤ 140737488355328) :
  ∃ v' w', (Builtin.append_ #[t, t] ty #[v, .slice (some a) m c]).run P w = .ok v' w' ∧ w'.ownsRowF 0 e size v' (n + m) (xs ++ news) ∧ w.grownBy w' v.ownBlock ∧ RowAt v v' w.heap.size := by
 rcases hown.2 with ⟨rfl, rfl⟩ | ⟨g, cap, cur, fz, rfl, hbg, hg, hfz, hnc, hcm, hcs, htake⟩
 ·have hown2 : w.ownsRowF w.heap.size e size (.slice none 0 0) 0 xs := ⟨hown.1, .inl ⟨rfl, rfl⟩⟩
  obtain ⟨v', w', r1, r2, r3, r4⟩ := run_append_ownF (P := P) w w.heap.size t ty e i z size bytes ht hi hz hsize hby hzs hsz _ 0 xs hown2 a m c news hl hnews h1 h63 hbytes (Nat.le_refl _)
  refine ⟨v', w', r1, ⟨r2.1, ?_⟩, r3, ?_⟩
  ·rcases r2.2 with h | ⟨g, cap, cur, fz, h1, h2, h3⟩
   ·exact .inl h
   ·exact .inr ⟨g, cap, cur, fz, h1, Nat.zero_le _, h3⟩
  ·rcases r2.2 with ⟨h, _⟩ | ⟨g, cap, cur, fz, h1, h2, h3⟩
   ·exact .inl (by rw [h])
   ·exact .inr ⟨g, by rw [h1]; rfl, h2⟩
 ·obtain ⟨v', w', r1, r2, r3, r4⟩ := run_append_ownF (P := P) w 0 t ty e i z size bytes ht hi hz hsize hby hzs hsz _ n xs hown a m c news hl hnews h1 h63 hbytes (Nat.zero_le _)
  refine ⟨v', w', r1, r2, r3, ?_⟩
  subst hsize
  subst hby
  have hsmall : n + m ≤ 9223372036854775807 := by simp only [maxLen] at h63; omega
  by_cases hroom : n + m ≤ cap
  ·have hfit : n * i.size + news.length ≤ cur.size := by rw [hl, hcs, ← Nat.add_mul]; exact Nat.mul_le_mul_right _ hroom
   have hr := run_append_roomF (P := P) w t ty e i ht hi g n cap cur fz hg hfz a m c news hl hnews h1 hroom hfit
   rw [r1] at hr
   injection hr with hr _
   exact .inl (by rw [hr]; rfl)
  ·have holds : ∀ j u, xs[j]? = some u → w.cell? ((⟨g, 0, none⟩ : Addr).add j) = some u := hown.cells (g := g) rfl
   have hr := run_append_grow (P := P) w t ty e i z ht hi hz ⟨g, 0, none⟩ n cap xs hown.1 holds a m c news hl hnews (by omega) (by omega) (growslice_fits (by omega) hbytes)
   rw [r1] at hr
   injection hr with hr _
   exact .inr ⟨w.heap.size, by rw [hr]; rfl, Nat.le_refl _⟩
theorem wpList_append_ownP {ops : Array Oper} {rest : List Oper} {o : Oper} {a : Act} {Q : Exit → Act → World → Prop} (hgd : o.guard = none) (s x : Operand) (t : TypeId)
  (ho : o.op = .call { callee := .builtin .append, args := #[s, x], argTypes := #[t, t] })
  (e : TypeId) (i : TypeInfo) (z : Value) (size bytes : Nat) (ht : P.underlying t = some (.slice e)) (hi : P.info? e = some i) (hz : i.zero = some z)
  (hsize : i.size = size) (hby : i.bytes = bytes) (hzs : z.cells.size = size) (hsz : 0 < size)
  (v : Value) (n : Nat) (xs : List Value) (hs : a.eval s = v) (hown : w.ownsRowF 0 e size v n xs)
  (ad : Addr) (m c : Nat) (news : List Value) (hx : a.eval x = .slice (some ad) m c) (hl : news.length = m * size) (hnews : ∀ j u, news[j]? = some u → w.cell? (ad.add j) = some u) (h1 : ∀ u ∈ news, u.oneCell' = true)
  (h63 : n + m ≤ maxLen) (hbytes : (n + m) * bytes ≤ 140737488355328)
  (h : ∀ v' w', w'.ownsRowF 0 e size v' (n + m) (xs ++ news) → w.grownBy w' v.ownBlock → RowAt v v' w.heap.size → wpList P ops Q rest (a.put o.dst v') w') : wpList P ops Q (o :: rest) a w := by
 refine wpList_plain hgd fun K hK => ?_
 obtain ⟨v', w', hr, h2, h3, h4⟩ := run_append_ownP (P := P) w t o.type e i z size bytes ht hi hz hsize hby hzs hsz v n xs hown ad m c news hl hnews h1 h63 hbytes
 unfold Oper.wp execOp
 simp only [ho, resolve, invoke, builtin, Sem.run_bind, Sem.run_pure, Result.andThen_ok, List.map_toArray, List.map_cons, List.map_nil, hs, hx, hr]
 exact hK _ _ (h v' w' h2 h3 h4)
end
end Go.Abs
set_option maxHeartbeats 1000000
set_option linter.unusedVariables false
namespace Go.Proofs.YtmhmjlfajlpabaaDoor
open Go Go.Abs Go.Proofs Go.RowKit Go.Lib
theorem u76 : Tryd.prog.underlying 76 = some (.pointer 78) := by kernel_rfl
theorem u101 : Tryd.prog.underlying 101 = some .unsafePointer := by kernel_rfl
theorem i78 : ∃ j,Tryd.prog.info? 78 = some j ∧ j.size = 2 := by
 have h : (Tryd.prog.info? 78).map (·.size) = some 2 := by kernel_rfl
 obtain ⟨j,h1,h2⟩ := Option.map_eq_some_iff.1 h
 exact ⟨j,h1,h2⟩
theorem lies78 : liesAt Tryd.prog Tryd.prog.depth 78 (2 / Tryd.prog.cellsOf 78) 0 78 1 = true := by kernel_rfl
theorem cc_used (b : Nat) (w : World) (h0 : w.cell? ⟨b,0,none⟩ = some (.pointer (some ⟨b,0,none⟩))) :
  Calls Tryd.prog 71 #[.pointer (some ⟨b,0,none⟩)] w fun e w' => e = .returned (.tuple #[]) ∧ w' = w := by
 obtain ⟨j,hj,hjs⟩ := i78
 go_enter Tryd.func71,Tryd.ntmps71
 go_wp2
 rw [Lib.run_neq_ptr_same w _ u76 hj]
 go_wp2
 go_end0
 exact ⟨rfl,rfl⟩
theorem cc_fresh (b : Nat) (w : World) (h0 : w.cell? ⟨b,0,none⟩ = some (.pointer none)) (hsh : w.shape? b = some (78,2)) (hfz : w.frozen? ⟨b,0,none⟩ = false) :
  Calls Tryd.prog 71 #[.pointer (some ⟨b,0,none⟩)] w fun e w' => e = .returned (.tuple #[]) ∧ w' = w.setCell ⟨b,0,none⟩ (.pointer (some ⟨b,0,none⟩)) := by
 obtain ⟨j,hj,hjs⟩ := i78
 go_enter Tryd.func71,Tryd.ntmps71
 go_wp2
 rw [Lib.run_to_unsafe w ⟨b,0,none⟩ u76 u101 hj (by rw [hjs]; decide) hsh (Nat.zero_lt_succ 1)]
 simp only [Result.andThen]
 rw [Oper.upon_value]
 go_wp2
 rw [run_callFunc_extern Tryd.func79 (by kernel_rfl) (by kernel_rfl) (by kernel_rfl) (e := Extern.AbiNoEscape.same) (by kernel_rfl)]
 rw [Lib.run_noEscape]
 simp only [Result.andThen]
 rw [Oper.upon_value]
 go_wp2
 rw [Lib.run_from_unsafe w ⟨b,0,none⟩ u101 u76 hj hsh lies78]
 simp only [Result.andThen]
 rw [Oper.upon_value]
 go_wp2
 go_end0
 exact ⟨rfl,rfl⟩
theorem u22 : Tryd.prog.underlying 22 = some (.slice 5) := by kernel_rfl
theorem infoB : ∃ i : TypeInfo,Tryd.prog.info? 5 = some i ∧ i.zero = some (.int .u8 0) ∧ i.size = 1 ∧ i.bytes = 1 := info_parts (by kernel_rfl)
theorem ar1 (v : Value) (n : Nat) (xs : List Value) (r : Int) (h0 : 0 ≤ r) (h1 : r ≤ 127) (w : World) (hown : w.ownsRowF 0 5 1 v n xs) (hlen : n + 4 ≤ 140737488355328) :
  Calls Tryd.prog 72 #[v,.int .i32 r] w fun e w' => ∃ v',e = .returned v' ∧ w'.ownsRowF 0 5 1 v' (n + 1) (xs ++ [.int .u8 r]) ∧ (∃ o,(w.alloc o).grownBy w' v.ownBlock) ∧ RowAt v v' w.heap.size := by
 obtain ⟨i0,hi,hz0,hz1,hz2⟩ := infoB
 go_enter Tryd.func72,Tryd.ntmps72
 go_wp2_with (at_builtin; refine wpList_append_ownP _ rfl _ _ 22 rfl 5 i0 (.int .u8 0) 1 1 u22 hi hz0 hz1 hz2 rfl (by decide) _ _ _ rfl (hown.alloc _) ⟨w.heap.size,0,none⟩ 1 1 [.int .u8 r] rfl rfl ?c1 ?c2 ?c3 ?c4 ?_)
 case c1 =>
  intro j u hj
  match j,hj with
  | 0,hj => simp at hj; subst hj; simp [Addr.add]
  | (j + 1),hj => simp at hj
 case c2 => intro u hu; simp at hu; subst hu; rfl
 case c3 => unfold maxLen; omega
 case c4 => omega
 intro v' w2 hown' hgrow hrow
 go_wp2
 go_ret
 exact ⟨_,rfl,hown',⟨_,hgrow⟩,hrow.imp_right fun ⟨k,h1,h2⟩ => ⟨k,h1,by omega⟩⟩
theorem ar2 (v : Value) (n : Nat) (xs : List Value) (r : Int) (h0 : 128 ≤ r) (h1 : r ≤ 2047) (w : World) (hown : w.ownsRowF 0 5 1 v n xs) (hlen : n + 4 ≤ 140737488355328) :
  Calls Tryd.prog 80 #[v,.int .i32 r] w fun e w' => ∃ v',e = .returned v' ∧ w'.ownsRowF 0 5 1 v' (n + 2) (xs ++ [.int .u8 (192 + r / 64),.int .u8 (128 + r % 64)]) ∧ (∃ o,(w.alloc o).grownBy w' v.ownBlock) ∧ RowAt v v' w.heap.size := by
 obtain ⟨i0,hi,hz0,hz1,hz2⟩ := infoB
 go_enter Tryd.func80,Tryd.ntmps80
 go_wp2_with (at_builtin; refine wpList_append_ownP _ rfl _ _ 22 rfl 5 i0 (.int .u8 0) 1 1 u22 hi hz0 hz1 hz2 rfl (by decide) _ _ _ rfl (hown.alloc _) ⟨w.heap.size,0,none⟩ 2 2 [.int .u8 (192 + r / 64),.int .u8 (128 + r % 64)] rfl rfl ?c1 ?c2 ?c3 ?c4 ?_)
 case c1 =>
  intro j u hj
  match j,hj with
  | 0,hj => simp at hj; subst hj; simp [Addr.add]
  | 1,hj => simp at hj; subst hj; simp [Addr.add]
  | (j + 2),hj => simp at hj
 case c2 => intro u hu; simp at hu; rcases hu with rfl | rfl <;> rfl
 case c3 => unfold maxLen; omega
 case c4 => omega
 intro v' w2 hown' hgrow hrow
 go_wp2
 go_ret
 exact ⟨_,rfl,hown',⟨_,hgrow⟩,hrow.imp_right fun ⟨k,h1,h2⟩ => ⟨k,h1,by omega⟩⟩
theorem ar3 (v : Value) (n : Nat) (xs : List Value) (r : Int) (h0 : 2048 ≤ r) (h1 : r < 55296) (w : World) (hown : w.ownsRowF 0 5 1 v n xs) (hlen : n + 4 ≤ 140737488355328) :
  Calls Tryd.prog 80 #[v,.int .i32 r] w fun e w' => ∃ v',e = .returned v' ∧ w'.ownsRowF 0 5 1 v' (n + 3) (xs ++ [.int .u8 (224 + r / 4096),.int .u8 (128 + r / 64 % 64),.int .u8 (128 + r % 64)]) ∧ (∃ o,(w.alloc o).grownBy w' v.ownBlock) ∧ RowAt v v' w.heap.size := by
 obtain ⟨i0,hi,hz0,hz1,hz2⟩ := infoB
 go_enter Tryd.func80,Tryd.ntmps80
 go_wp2_with (at_builtin; refine wpList_append_ownP _ rfl _ _ 22 rfl 5 i0 (.int .u8 0) 1 1 u22 hi hz0 hz1 hz2 rfl (by decide) _ _ _ rfl (hown.alloc _) ⟨w.heap.size,0,none⟩ 3 3 [.int .u8 (224 + r / 4096),.int .u8 (128 + r / 64 % 64),.int .u8 (128 + r % 64)] rfl rfl ?c1 ?c2 ?c3 ?c4 ?_)
 case c1 =>
  intro j u hj
  match j,hj with
  | 0,hj => simp at hj; subst hj; simp [Addr.add]
  | 1,hj => simp at hj; subst hj; simp [Addr.add]
  | 2,hj => simp at hj; subst hj; simp [Addr.add]
  | (j + 3),hj => simp at hj
 case c2 => intro u hu; simp at hu; rcases hu with rfl | rfl | rfl <;> rfl
 case c3 => unfold maxLen; omega
 case c4 => omega
 intro v' w2 hown' hgrow hrow
 go_wp2
 go_ret
 exact ⟨_,rfl,hown',⟨_,hgrow⟩,hrow.imp_right fun ⟨k,h1,h2⟩ => ⟨k,h1,by omega⟩⟩
theorem ar4 (v : Value) (n : Nat) (xs : List Value) (r : Int) (h0 : 57343 < r) (h1 : r ≤ 65535) (w : World) (hown : w.ownsRowF 0 5 1 v n xs) (hlen : n + 4 ≤ 140737488355328) :
  Calls Tryd.prog 80 #[v,.int .i32 r] w fun e w' => ∃ v',e = .returned v' ∧ w'.ownsRowF 0 5 1 v' (n + 3) (xs ++ [.int .u8 (224 + r / 4096),.int .u8 (128 + r / 64 % 64),.int .u8 (128 + r % 64)]) ∧ (∃ o,(w.alloc o).grownBy w' v.ownBlock) ∧ RowAt v v' w.heap.size := by
 obtain ⟨i0,hi,hz0,hz1,hz2⟩ := infoB
 go_enter Tryd.func80,Tryd.ntmps80
 go_wp2_with (at_builtin; refine wpList_append_ownP _ rfl _ _ 22 rfl 5 i0 (.int .u8 0) 1 1 u22 hi hz0 hz1 hz2 rfl (by decide) _ _ _ rfl (hown.alloc _) ⟨w.heap.size,0,none⟩ 3 3 [.int .u8 (224 + r / 4096),.int .u8 (128 + r / 64 % 64),.int .u8 (128 + r % 64)] rfl rfl ?c1 ?c2 ?c3 ?c4 ?_)
 case c1 =>
  intro j u hj
  match j,hj with
  | 0,hj => simp at hj; subst hj; simp [Addr.add]
  | 1,hj => simp at hj; subst hj; simp [Addr.add]
  | 2,hj => simp at hj; subst hj; simp [Addr.add]
  | (j + 3),hj => simp at hj
 case c2 => intro u hu; simp at hu; rcases hu with rfl | rfl | rfl <;> rfl
 case c3 => unfold maxLen; omega
 case c4 => omega
 intro v' w2 hown' hgrow hrow
 go_wp2
 go_ret
 exact ⟨_,rfl,hown',⟨_,hgrow⟩,hrow.imp_right fun ⟨k,h1,h2⟩ => ⟨k,h1,by omega⟩⟩
theorem ar5 (v : Value) (n : Nat) (xs : List Value) (r : Int) (h0 : 65536 ≤ r) (h1 : r ≤ 1114111) (w : World) (hown : w.ownsRowF 0 5 1 v n xs) (hlen : n + 4 ≤ 140737488355328) :
  Calls Tryd.prog 80 #[v,.int .i32 r] w fun e w' => ∃ v',e = .returned v' ∧ w'.ownsRowF 0 5 1 v' (n + 4) (xs ++ [.int .u8 (240 + r / 262144),.int .u8 (128 + r / 4096 % 64),.int .u8 (128 + r / 64 % 64),.int .u8 (128 + r % 64)]) ∧ (∃ o,(w.alloc o).grownBy w' v.ownBlock) ∧ RowAt v v' w.heap.size := by
 obtain ⟨i0,hi,hz0,hz1,hz2⟩ := infoB
 go_enter Tryd.func80,Tryd.ntmps80
 go_wp2_with (at_builtin; refine wpList_append_ownP _ rfl _ _ 22 rfl 5 i0 (.int .u8 0) 1 1 u22 hi hz0 hz1 hz2 rfl (by decide) _ _ _ rfl (hown.alloc _) ⟨w.heap.size,0,none⟩ 4 4 [.int .u8 (240 + r / 262144),.int .u8 (128 + r / 4096 % 64),.int .u8 (128 + r / 64 % 64),.int .u8 (128 + r % 64)] rfl rfl ?c1 ?c2 ?c3 ?c4 ?_)
 case c1 =>
  intro j u hj
  match j,hj with
  | 0,hj => simp at hj; subst hj; simp [Addr.add]
  | 1,hj => simp at hj; subst hj; simp [Addr.add]
  | 2,hj => simp at hj; subst hj; simp [Addr.add]
  | 3,hj => simp at hj; subst hj; simp [Addr.add]
  | (j + 4),hj => simp at hj
 case c2 => intro u hu; simp at hu; rcases hu with rfl | rfl | rfl | rfl <;> rfl
 case c3 => unfold maxLen; omega
 case c4 => omega
 intro v' w2 hown' hgrow hrow
 go_wp2
 go_ret
 exact ⟨_,rfl,hown',⟨_,hgrow⟩,hrow.imp_right fun ⟨k,h1,h2⟩ => ⟨k,h1,by omega⟩⟩
def runeOK (n : Nat) : Prop := n < 55296 ∨ 57343 < n ∧ n ≤ 1114111
theorem runeB_cells {n : Nat} (h : runeOK n) : byteCells (runeB n) = if n < 128 then [.int .u8 (n : Int)] else if n < 2048 then [.int .u8 (192 + (n : Int) / 64),.int .u8 (128 + (n : Int) % 64)]
  else if n < 65536 then [.int .u8 (224 + (n : Int) / 4096),.int .u8 (128 + (n : Int) / 64 % 64),.int .u8 (128 + (n : Int) % 64)]
  else [.int .u8 (240 + (n : Int) / 262144),.int .u8 (128 + (n : Int) / 4096 % 64),.int .u8 (128 + (n : Int) / 64 % 64),.int .u8 (128 + (n : Int) % 64)] := by
 have u : ∀ k : Nat,k < 256 → (UInt8.ofNat k).toNat = k := fun k hk => by simp; omega
 unfold runeOK at h
 unfold runeB byteCells
 split
 ·simp only [List.map_cons,List.map_nil,u n (by omega)]
 split
 ·simp only [List.map_cons,List.map_nil,u (192 + n / 64) (by omega),u (128 + n % 64) (by omega)]; rfl
 split
 ·simp only [List.map_cons,List.map_nil,u (224 + n / 4096) (by omega),u (128 + n / 64 % 64) (by omega),u (128 + n % 64) (by omega)]; rfl
 ·simp only [List.map_cons,List.map_nil,u (240 + n / 262144) (by omega),u (128 + n / 4096 % 64) (by omega),u (128 + n / 64 % 64) (by omega),u (128 + n % 64) (by omega)]; rfl
theorem ar_all (v : Value) (n : Nat) (xs : List Value) (r : Nat) (hr : runeOK r) (w : World) (hown : w.ownsRowF 0 5 1 v n xs) (hlen : n + 4 ≤ 140737488355328) :
  Calls Tryd.prog 72 #[v,.int .i32 r] w fun e w' => ∃ v',e = .returned v' ∧ w'.ownsRowF 0 5 1 v' (n + (runeB r).length) (xs ++ byteCells (runeB r)) ∧ (∃ o,(w.alloc o).grownBy w' v.ownBlock) ∧ RowAt v v' w.heap.size := by
 have hb := runeB_cells hr
 have hl : (runeB r).length = (byteCells (runeB r)).length := (byteCells_length _).symm
 rw [hl,hb]
 have hr' := hr
 unfold runeOK at hr'
 have H := Lib.hid hr'
 clear hr' hb hl hr
 by_cases c1 : r < 128
 ·rw [if_pos c1]
  exact ar1 v n xs r (by omega) (by omega) w hown hlen
 rw [if_neg c1]
 have e80 : ∀ args w,(callFunc 80 args).run Tryd.prog w = .ok (.enter 80 args) w := enters_of Tryd.func80 (by kernel_rfl) rfl
 have h80 : ∀ l : List Value,(Calls Tryd.prog 80 #[v,.int .i32 r] w fun e w' => ∃ v',e = .returned v' ∧ w'.ownsRowF 0 5 1 v' (n + l.length) (xs ++ l) ∧ (∃ o,(w.alloc o).grownBy w' v.ownBlock) ∧ RowAt v v' w.heap.size) →
   Calls Tryd.prog 72 #[v,.int .i32 r] w fun e w' => ∃ v',e = .returned v' ∧ w'.ownsRowF 0 5 1 v' (n + l.length) (xs ++ l) ∧ (∃ o,(w.alloc o).grownBy w' v.ownBlock) ∧ RowAt v v' w.heap.size := by
  intro l h
  have c1' : (128 : Int) ≤ (r : Int) := by omega
  have c2' : (r : Int) ≤ 1114111 := by have := H.out; omega
  go_enter Tryd.func72,Tryd.ntmps72
  go_wp2_with (go_at_fn 80; refine h.mono ?_)
  rintro e w1 ⟨v',rfl,h1,h2,h3⟩
  go_wp2
  go_ret
  exact ⟨_,rfl,h1,h2,h3⟩
 refine h80 _ ?_
 by_cases c2 : r < 2048
 ·rw [if_pos c2]
  exact ar2 v n xs r (by omega) (by omega) w hown hlen
 rw [if_neg c2]
 by_cases c3 : r < 65536
 ·rw [if_pos c3]
  by_cases c4 : r < 55296
  ·exact ar3 v n xs r (by omega) (by omega) w hown hlen
  ·exact ar4 v n xs r (by have := H.out; omega) (by omega) w hown hlen
 ·rw [if_neg c3]
  exact ar5 v n xs r (by omega) (by have := H.out; omega) w hown hlen
structure Mv (b : Nat) (row : Option Nat) (w w' : World) : Prop where
 os : w'.os = w.os
 tape : w'.tape = w.tape
 output : w'.output = w.output
 size : w.heap.size ≤ w'.heap.size
 block : ∀ k,k < w.heap.size → k ≠ b → some k ≠ row → w'.heap[k]? = w.heap[k]?
theorem Mv.refl (b : Nat) (row : Option Nat) (w : World) : Mv b row w w := ⟨rfl,rfl,rfl,Nat.le_refl _,fun _ _ _ _ => rfl⟩
theorem Mv.set {b i : Nat} {row : Option Nat} {w w' : World} (h : Mv b row w w') (v : Value) : Mv b row w (w'.setCell ⟨b,i,none⟩ v) where
 os := h.os
 tape := h.tape
 output := h.output
 size := by simpa using h.size
 block k hk hb hr := by rw [heap_setCell_other _ _ _ _ hb]; exact h.block k hk hb hr
theorem Mv.of_grown {b : Nat} {row : Option Nat} {w w1 w' : World} (h : Mv b row w w1) (o : Obj) (hg : (w1.alloc o).grownBy w' row) : Mv b row w w' where
 os := hg.os.trans h.os
 tape := hg.tape.trans h.tape
 output := hg.output.trans h.output
 size := by have h1 := hg.size; have h2 := h.size; simp at h1; omega
 block k hk hb hr := by
  have h2 := h.size
  rw [hg.block k (by simp; omega) hr,alloc_old w1 o k (by omega)]
  exact h.block k hk hb hr
def BAt (b : Nat) (p v : Value) (l : Tx) (w : World) : Prop :=
 w.heap[b]? = some (.cells #[p,v] 78 (0,0)) ∧ w.ownsRowF 0 5 1 v l.length (byteCells l) ∧ v.ownBlock ≠ some b ∧ (l = [] → v = .slice none 0 0)
def Bld (b : Nat) (l : Tx) (row : Option Nat) (w : World) : Prop := ∃ p v,(p = .pointer none ∨ p = .pointer (some ⟨b,0,none⟩)) ∧ BAt b p v l w ∧ v.ownBlock = row
theorem BAt.lt {b : Nat} {p v : Value} {l : Tx} {w : World} (h : BAt b p v l w) : b < w.heap.size := by
 rcases Nat.lt_or_ge b w.heap.size with h' | h'
 ·exact h'
 ·have := h.1; simp [Array.getElem?_eq_none h'] at this
theorem BAt.row_lt {b : Nat} {p v : Value} {l : Tx} {w : World} (h : BAt b p v l w) {k : Nat} (hk : v.ownBlock = some k) : k < w.heap.size := by
 rcases h.2.1.2 with ⟨rfl,_⟩ | ⟨g,cap,cur,fz,rfl,_,hg,_⟩
 ·simp [Value.ownBlock] at hk
 ·obtain rfl : g = k := by simpa [Value.ownBlock] using hk
  rcases Nat.lt_or_ge g w.heap.size with h' | h'
  ·exact h'
  ·simp [Array.getElem?_eq_none h'] at hg
theorem own_kept {v : Value} {n : Nat} {xs : List Value} {w w' : World} (h : w.ownsRowF 0 5 1 v n xs) (hk : ∀ k,v.ownBlock = some k → w'.heap[k]? = w.heap[k]?) : w'.ownsRowF 0 5 1 v n xs := by
 refine ⟨h.1,?_⟩
 rcases h.2 with h | ⟨g,cap,cur,fz,rfl,h1,hg,h2⟩
 ·exact .inl h
 ·exact .inr ⟨g,cap,cur,fz,rfl,h1,by rw [hk g (by simp [Value.ownBlock])]; exact hg,h2⟩
theorem Bld.kept {b : Nat} {l : Tx} {row : Option Nat} {w w' : World} (h : Bld b l row w) (hb : w'.heap[b]? = w.heap[b]?) (hr : ∀ k,row = some k → w'.heap[k]? = w.heap[k]?) : Bld b l row w' := by
 obtain ⟨p,v,hp,⟨h1,h2,h3,h4⟩,h5⟩ := h
 exact ⟨p,v,hp,⟨by rw [hb]; exact h1,own_kept h2 (fun k hk => hr k (by rw [← h5]; exact hk)),h3,h4⟩,h5⟩
theorem cc_any {b : Nat} {p v : Value} {l : Tx} {w : World} (hp : p = .pointer none ∨ p = .pointer (some ⟨b,0,none⟩)) (h : BAt b p v l w) :
  Calls Tryd.prog 71 #[.pointer (some ⟨b,0,none⟩)] w fun e w' => e = .returned (.tuple #[]) ∧ BAt b (.pointer (some ⟨b,0,none⟩)) v l w' ∧ w'.heap.size = w.heap.size ∧ Mv b v.ownBlock w w' := by
 obtain ⟨h1,h2,h3,h4⟩ := h
 have c0 : w.cell? ⟨b,0,none⟩ = some p := by rw [cell_of_heap h1]; rfl
 rcases hp with rfl | rfl
 ·refine (cc_fresh b w c0 (by simp [World.shape?,h1]) (by simp [World.frozen?,h1])).mono ?_
  rintro e w' ⟨rfl,rfl⟩
  refine ⟨rfl,⟨?_,own_kept h2 (fun k hk => ?_),h3,h4⟩,by simp,(Mv.refl _ _ _).set _⟩
  ·simp [World.setCell,Array.getElem?_modify,h1]
  ·exact heap_setCell_other _ _ _ _ (fun e => h3 (by rw [hk,e]))
 ·refine (cc_used b w c0).mono ?_
  rintro e w' ⟨rfl,rfl⟩
  exact ⟨rfl,⟨h1,h2,h3,h4⟩,rfl,Mv.refl _ _ _⟩
def Wrote (b : Nat) (l : Tx) (row : Option Nat) (w w' : World) : Prop := ∃ row',Bld b l row' w' ∧ Mv b row w w' ∧ (row' = row ∨ ∃ k,row' = some k ∧ w.heap.size ≤ k)
theorem put_row {b : Nat} {v v' : Value} {l l' : Tx} {w1 w2 : World} {o : Obj} (h : BAt b (.pointer (some ⟨b,0,none⟩)) v l w1) (hg : (w1.alloc o).grownBy w2 v.ownBlock) (hrow : RowAt v v' w1.heap.size)
  (hown : w2.ownsRowF 0 5 1 v' l'.length (byteCells l')) (hl : l' ≠ []) : Bld b l' v'.ownBlock (w2.setCell ⟨b,1,none⟩ v') := by
 have hlt := h.lt
 have hb2 : w2.heap[b]? = some (.cells #[.pointer (some ⟨b,0,none⟩),v] 78 (0,0)) := by
  rw [hg.block b (by simp; omega) (fun e => h.2.2.1 e.symm),alloc_old w1 _ b hlt]
  exact h.1
 have hne : v'.ownBlock ≠ some b := by
  rcases hrow with e | ⟨k,e,hk⟩
  ·rw [e]; exact h.2.2.1
  ·rw [e]; intro e2; injection e2 with e2; omega
 refine ⟨_,v',.inr rfl,⟨?_,own_kept hown (fun k hk => ?_),hne,fun e => absurd e hl⟩,rfl⟩
 ·simp [World.setCell,Array.getElem?_modify,hb2]
 ·exact heap_setCell_other _ _ _ _ (fun e => hne (by rw [hk,e]))
theorem wb_any {b : Nat} {l : Tx} {row : Option Nat} {w : World} (c : UInt8) (h : Bld b l row w) (hlen : l.length + 1 ≤ 140737488355328) :
  Calls Tryd.prog 61 #[.pointer (some ⟨b,0,none⟩),.int .u8 c.toNat] w fun e w' => e = .returned .nilIface ∧ Wrote b (l ++ [c]) row w w' := by
 obtain ⟨i0,hi,hz0,hz1,hz2⟩ := infoB
 obtain ⟨p,v,hp,hat,rfl⟩ := h
 have e71 : ∀ args w,(callFunc 71 args).run Tryd.prog w = .ok (.enter 71 args) w := enters_of Tryd.func71 (by kernel_rfl) rfl
 go_enter Tryd.func61,Tryd.ntmps61
 go_wp2_with (go_at_fn 71; refine (cc_any hp hat).mono ?_)
 rintro e w1 ⟨rfl,h1,hs1,m1⟩
 have HS := Lib.hid hs1
 clear hs1
 have hbk := h1.1
 have c0 : w1.cell? ⟨b,0,none⟩ = some (.pointer (some ⟨b,0,none⟩)) := by rw [cell_of_heap hbk]; rfl
 have c1 : w1.cell? ⟨b,1,none⟩ = some v := by rw [cell_of_heap hbk]; rfl
 go_wp2_with (at_builtin; refine wpList_append_ownP _ rfl _ _ 22 rfl 5 i0 (.int .u8 0) 1 1 u22 hi hz0 hz1 hz2 rfl (by decide) _ _ _ rfl (h1.2.1.alloc _) ⟨w1.heap.size,0,none⟩ 1 1 [.int .u8 c.toNat] rfl rfl ?c1 ?c2 ?c3 ?c4 ?_)
 case c1 =>
  intro j u hj
  match j,hj with
  | 0,hj => simp at hj; subst hj; simp [Addr.add]
  | (j + 1),hj => simp at hj
 case c2 => intro u hu; simp at hu; subst hu; rfl
 case c3 => unfold maxLen; omega
 case c4 => omega
 intro v' w2 hown' hgrow hrow
 have hrow' : RowAt v v' w1.heap.size := hrow.imp_right fun ⟨k,h1,h2⟩ => ⟨k,h1,by omega⟩
 have hlt := h1.lt
 have hb2 : w2.heap[b]? = some (.cells #[.pointer (some ⟨b,0,none⟩),v] 78 (0,0)) := by
  rw [hgrow.block b (by simp; omega) (fun e => h1.2.2.1 e.symm),alloc_old w1 _ b hlt]
  exact hbk
 have d0 : w2.cell? ⟨b,0,none⟩ = some (.pointer (some ⟨b,0,none⟩)) := by rw [cell_of_heap hb2]; rfl
 have d1 : w2.cell? ⟨b,1,none⟩ = some v := by rw [cell_of_heap hb2]; rfl
 have f1 : w2.frozen? ⟨b,1,none⟩ = false := frozen_of_heap hb2 1
 have hput := put_row (l' := l ++ [c]) h1 hgrow hrow' (by simpa [byteCells] using hown') (by simp)
 have hmv := (m1.of_grown _ hgrow).set (i := 1) v'
 obtain ⟨g,cap,rfl⟩ : ∃ g cap,v' = .slice (some ⟨g,0,none⟩) (l.length + 1) cap := by
  rcases hown'.2 with ⟨_,h0⟩ | ⟨g,cap,cur,fz,hv,_⟩
  ·omega
  ·exact ⟨g,cap,hv⟩
 have HP := Lib.hid hput
 have HM := Lib.hid hmv
 have HR := Lib.hid hrow'
 clear hput hmv hrow' hrow hgrow hb2 hbk
 go_wp2
 go_ret
 exact ⟨rfl,_,HP.out,HM.out,HR.out.imp_right fun ⟨k,h1,h2⟩ => ⟨k,h1,by have := HS.out; omega⟩⟩
theorem wr_any {b : Nat} {l : Tx} {row : Option Nat} {w : World} (r : Nat) (hr : runeOK r) (h : Bld b l row w) (hlen : l.length + 4 ≤ 140737488355328) :
  Calls Tryd.prog 59 #[.pointer (some ⟨b,0,none⟩),.int .i32 r] w fun e w' => (∃ v,e = .returned v) ∧ Wrote b (l ++ runeB r) row w w' := by
 obtain ⟨p,v,hp,hat,rfl⟩ := h
 have e71 : ∀ args w,(callFunc 71 args).run Tryd.prog w = .ok (.enter 71 args) w := enters_of Tryd.func71 (by kernel_rfl) rfl
 have e72 : ∀ args w,(callFunc 72 args).run Tryd.prog w = .ok (.enter 72 args) w := enters_of Tryd.func72 (by kernel_rfl) rfl
 have hn : runeB r ≠ [] := by unfold runeB; (repeat' split) <;> simp
 have hn0 : 0 < (runeB r).length := List.length_pos_iff.2 hn
 go_enter Tryd.func59,Tryd.ntmps59
 go_wp2_with (go_at_fn 71; refine (cc_any hp hat).mono ?_)
 rintro e w1 ⟨rfl,h1,hs1,m1⟩
 have HS := Lib.hid hs1
 clear hs1
 obtain ⟨ao,cap,rfl⟩ : ∃ ao cap,v = .slice ao l.length cap := by
  rcases h1.2.1.2 with ⟨hv,h0⟩ | ⟨g,cap,cur,fz,hv,_⟩
  ·exact ⟨none,0,by rw [hv,h0]⟩
  ·exact ⟨_,_,hv⟩
 have hbk := h1.1
 have c0 : w1.cell? ⟨b,0,none⟩ = some (.pointer (some ⟨b,0,none⟩)) := by rw [cell_of_heap hbk]; rfl
 have c1 : w1.cell? ⟨b,1,none⟩ = some (.slice ao l.length cap) := by rw [cell_of_heap hbk]; rfl
 have HB := Lib.hid hbk
 clear hbk
 go_wp2_with (go_at_fn 72; refine (ar_all _ _ _ r hr _ h1.2.1 hlen).mono ?_)
 rintro e w2 ⟨v',rfl,hown',⟨o,hgrow⟩,hrow⟩
 have hlt := h1.lt
 have hb2 : w2.heap[b]? = some (.cells #[.pointer (some ⟨b,0,none⟩),.slice ao l.length cap] 78 (0,0)) := by
  rw [hgrow.block b (by simp; omega) (fun e => h1.2.2.1 e.symm),alloc_old w1 _ b hlt]
  exact HB.out
 have d0 : w2.cell? ⟨b,0,none⟩ = some (.pointer (some ⟨b,0,none⟩)) := by rw [cell_of_heap hb2]; rfl
 have d1 : w2.cell? ⟨b,1,none⟩ = some (.slice ao l.length cap) := by rw [cell_of_heap hb2]; rfl
 have f1 : w2.frozen? ⟨b,1,none⟩ = false := frozen_of_heap hb2 1
 have hput := put_row (l' := l ++ runeB r) h1 hgrow hrow (by simpa [byteCells] using hown') (by simp [hn])
 have hmv := (m1.of_grown _ hgrow).set (i := 1) v'
 obtain ⟨g,cap',rfl⟩ : ∃ g cap,v' = .slice (some ⟨g,0,none⟩) (l.length + (runeB r).length) cap := by
  rcases hown'.2 with ⟨_,h0⟩ | ⟨g,cap,cur,fz,hv,_⟩
  ·omega
  ·exact ⟨g,cap,hv⟩
 have HP := Lib.hid hput
 have HM := Lib.hid hmv
 have HR := Lib.hid hrow
 clear hput hmv hrow hgrow hb2
 go_wp2
 go_ret2
 exact ⟨⟨_,rfl⟩,_,HP.out,HM.out,HR.out.imp_right fun ⟨k,h1,h2⟩ => ⟨k,h1,by have := HS.out; omega⟩⟩
end Go.Proofs.YtmhmjlfajlpabaaDoor
set_option maxHeartbeats 2000000
set_option linter.unusedVariables false
namespace Go.Proofs.YtmhmjlfajlpabaaDoor
open Go Go.Abs Go.Proofs Go.RowKit Go.Lib
theorem mixed : Tryd.prog.follows .mixedOrders = true := by kernel_rfl
theorem u93 : Tryd.prog.underlying 93 = some (.pointer 5) := by kernel_rfl
theorem cells5 : Tryd.prog.cellsOf 5 = 1 := by kernel_rfl
theorem str_nil {b : Nat} {p : Value} {w : World} (hbk : w.heap[b]? = some (.cells #[p,.slice none 0 0] 78 (0,0))) :
  Calls Tryd.prog 58 #[.pointer (some ⟨b,0,none⟩)] w fun e w' => e = .returned (.string ⟨#[]⟩) ∧ w' = w.drew := by
 have hUS : ∀ w',(Builtin.unsafeString_ #[93,3] 9 #[.pointer none,.int .i64 0]).run Tryd.prog w' = .ok (.string ⟨#[]⟩) w' := fun w' => by rfl
 have hSD : ∀ w',(Builtin.unsafeSliceData_ #[22] 93 #[.slice none 0 0]).run Tryd.prog w' = .ok (.pointer none) w' := fun w' => rfl
 have c1 : w.drew.cell? ⟨b,1,none⟩ = some (.slice none 0 0) := by
  have : w.drew.heap[b]? = some (.cells #[p,.slice none 0 0] 78 (0,0)) := hbk
  rw [cell_of_heap this]; rfl
 clear hbk
 have mixed := mixed
 go_enter Tryd.func58,Tryd.ntmps58
 go_wp2
 go_region_o
 all_goals (go_wp2; go_ret; exact ⟨rfl,rfl⟩)
theorem str_row {b : Nat} {p : Value} {l : Tx} {w : World} {g cap : Nat} {cur : Array Value} {fz : Nat × Nat} (h0 : l ≠ []) (hbk : w.heap[b]? = some (.cells #[p,.slice (some ⟨g,0,none⟩) l.length cap] 78 (0,0)))
  (hown : w.ownsRowF 0 5 1 (.slice (some ⟨g,0,none⟩) l.length cap) l.length (byteCells l)) (hg : w.heap[g]? = some (.cells cur 5 fz)) (hnc : l.length ≤ cap) (hcm : cap ≤ maxLen) (hcs : cur.size = cap * 1) :
  Calls Tryd.prog 58 #[.pointer (some ⟨b,0,none⟩)] w fun e w' => e = .returned (.string ⟨l.toArray⟩) ∧ w' = w.drew.freeze ⟨g,0,none⟩ l.length := by
 have hl0 : l.length ≠ 0 := by simpa using h0
 have c1 : w.drew.cell? ⟨b,1,none⟩ = some (.slice (some ⟨g,0,none⟩) l.length cap) := by
  have : w.drew.heap[b]? = some (.cells #[p,.slice (some ⟨g,0,none⟩) l.length cap] 78 (0,0)) := hbk
  rw [cell_of_heap this]; rfl
 have hSD : (Builtin.unsafeSliceData_ #[22] 93 #[.slice (some ⟨g,0,none⟩) l.length cap]).run Tryd.prog w.drew = .ok (.pointer (some ⟨g,0,none⟩)) w.drew :=
  run_unsafeSliceData_row _ _ _ _ _ _ (by omega)
 have hUS : (Builtin.unsafeString_ #[93,3] 9 #[.pointer (some ⟨g,0,none⟩),.int .i64 l.length]).run Tryd.prog w.drew = .ok (.string ⟨l.toArray⟩) (w.drew.freeze ⟨g,0,none⟩ l.length) := by
  refine run_unsafeString_row w.drew 93 3 9 5 u93 cells5 g cur.size (by have hg' : w.drew.heap[g]? = some (.cells cur 5 fz) := hg; simp [World.shape?,hg']) l h0 (by omega) (by unfold maxLen at hcm; omega) ?_
  intro j x hx
  have := hown.cells (g := g) rfl j (.int .u8 x.toNat) (by simp [byteCells,hx])
  exact this
 clear hown hbk hg hl0 hcs
 have mixed := mixed
 go_enter Tryd.func58,Tryd.ntmps58
 go_wp2
 go_region_o
 all_goals (go_wp2; go_ret; exact ⟨rfl,rfl⟩)
theorem str_any {b : Nat} {l : Tx} {row : Option Nat} {w : World} (h : Bld b l row w) :
  Calls Tryd.prog 58 #[.pointer (some ⟨b,0,none⟩)] w fun e w' => e = .returned (.string ⟨l.toArray⟩) ∧ Mv b row w w' := by
 obtain ⟨p,v,hp,⟨hbk,hown,hne,hnil⟩,rfl⟩ := h
 by_cases h0 : l = []
 ·obtain rfl := hnil h0
  subst h0
  refine (str_nil hbk).mono ?_
  rintro e w' ⟨rfl,rfl⟩
  exact ⟨rfl,rfl,rfl,rfl,Nat.le_refl _,fun _ _ _ _ => rfl⟩
 ·have hown' := hown
  rcases hown.2 with ⟨_,hz⟩ | ⟨g,cap,cur,fz,rfl,hbg,hg,hfz,hnc,hcm,hcs,htake⟩
  ·exact absurd (List.eq_nil_of_length_eq_zero hz) h0
  refine (str_row h0 hbk hown' hg hnc hcm hcs).mono ?_
  rintro e w' ⟨rfl,rfl⟩
  obtain ⟨s1,s2,s3,s4⟩ := freeze_same w.drew ⟨g,0,none⟩ l.length
  refine ⟨rfl,s1,s2,s3,Nat.le_of_eq s4.symm,fun k hk hb hr => ?_⟩
  exact heap_freeze w.drew ⟨g,0,none⟩ l.length k (fun e => hr (by rw [e]; rfl))
end Go.Proofs.YtmhmjlfajlpabaaDoor
namespace Go.Proofs.YtmhmjlfajlpabaaDoor
open Go Go.Abs
def piece : Code → List Nat → Code
 | c,[] => c
 | .seq a _,0 :: l => piece a l
 | .cond _ a _,0 :: l => piece a l
 | .block _ a,0 :: l => piece a l
 | .loop a,0 :: l => piece a l
 | .scope a,0 :: l => piece a l
 | .seq _ b,_ :: l => piece b l
 | .cond _ _ b,_ :: l => piece b l
 | c,_ => c
noncomputable def b41 : Code := (Tryd.f41.body).getD .skip
noncomputable def p41_0 : Code := piece b41 [0]
def q41_0 : CCode := .region [⟨some 2,.move (.c (.d (.str []))),none,[]⟩] none []
theorem k41_0 : compileCode Tryd.prog noTk [18,39,50,2,0,3,4] p41_0 = some q41_0 := by kernel_rfl
noncomputable def p41_1 : Code := piece b41 [1,0]
def q41_1 : CCode := .region [⟨some 5,.move (.t 0),none,[]⟩,⟨some 6,.call 57 [.t 5,.c (.d (.int (.u8) 34))],none,[]⟩] none [5,6]
theorem k41_1 : compileCode Tryd.prog noTk [18,39,50,2,0,3,4] p41_1 = some q41_1 := by kernel_rfl
noncomputable def p41_2 : Code := piece b41 [1,1,0]
def q41_2 : CCode := .region [⟨some 3,.new [.d (.nilptr),.fslice []],none,[]⟩] none []
noncomputable def p41_3 : Code := piece b41 [1,1,1,0,0,0,0]
def q41_3 : CCode := .region [⟨some 7,.move (.t 0),none,[]⟩,⟨some 8,.call 37 [.t 7],none,[]⟩,⟨some 4,.move (.t 8),none,[8]⟩] none [7,8]
theorem k41_3 : compileCode Tryd.prog noTk [18,39,50,2,0,3,4] p41_3 = some q41_3 := by kernel_rfl
noncomputable def p41_6 : Code := piece b41 [1,1,1,0,0,0,1,0,0]
def q41_6 : CCode := .region [⟨some 19,.move (.t 0),none,[]⟩,⟨some 20,.nilCheck (.t 19),none,[]⟩,⟨some 21,.fieldAddr 1 (.t 20),none,[]⟩,⟨some 22,.load false 1 (.t 21),none,[]⟩,⟨some 23,.move (.t 0),none,[]⟩,⟨some 24,.nilCheck (.t 23),none,[]⟩,⟨some 25,.fieldAddr 0 (.t 24),none,[]⟩,⟨some 26,.load false 1 (.t 25),none,[]⟩,⟨some 27,.len (.str) (.t 26),none,[]⟩,⟨some 28,.bin (.eql) (.none) (.t 22) (.t 27),none,[]⟩,⟨some 29,.move (.t 28),none,[]⟩,⟨some 30,.move (.t 4),some (29,false),[]⟩,⟨some 31,.bin (.lss) (.none) (.t 30) (.c (.d (.int (.u8) 32))),some (29,false),[]⟩,⟨some 32,.pick (.t 29) (.c (boolD true)) (.t 31),none,[]⟩,⟨some 18,.move (.t 32),none,[32]⟩] none [19,20,21,22,23,24,25,26,27,28,29,30,31,32]
theorem k41_6 : compileCode Tryd.prog noTk [18,39,50,2,0,3,4] p41_6 = some q41_6 := by kernel_rfl
noncomputable def p41_7 : Code := piece b41 [1,1,1,0,0,0,1,0,1,0]
def q41_7 : CCode := .region [⟨some 33,.move (.t 0),none,[]⟩,⟨some 34,.move (.t 0),none,[]⟩,⟨some 35,.nilCheck (.t 34),none,[]⟩,⟨some 36,.fieldAddr 1 (.t 35),none,[]⟩,⟨some 37,.load false 1 (.t 36),none,[]⟩,⟨some 38,.call 26 [.t 33,.c (.d (.int (.i64) 11)),.t 37],none,[]⟩] none [33,34,35,36,37,38]
theorem k41_7 : compileCode Tryd.prog noTk [18,39,50,2,0,3,4] p41_7 = some q41_7 := by kernel_rfl
noncomputable def p41_8 : Code := piece b41 [1,1,1,0,0,0,1,0,1,1,0]
def q41_8 : CCode := .region [⟨some 40,.move (.t 4),none,[]⟩,⟨some 41,.bin (.eql) (.none) (.t 40) (.c (.d (.int (.u8) 34))),none,[]⟩,⟨some 39,.move (.t 41),none,[41]⟩] none [40,41]
theorem k41_8 : compileCode Tryd.prog noTk [18,39,50,2,0,3,4] p41_8 = some q41_8 := by kernel_rfl
noncomputable def p41_9 : Code := piece b41 [1,1,1,0,0,0,1,0,1,1,1,0,0]
def q41_9 : CCode := .region [⟨some 42,.move (.t 0),none,[]⟩,⟨some 43,.nilCheck (.t 42),none,[]⟩,⟨some 44,.fieldAddr 1 (.t 43),none,[]⟩,⟨some 45,.load false 1 (.t 44),none,[]⟩,⟨some 46,.bin (.add) (.none) (.t 45) (.c (.d (.int (.i64) 1))),none,[]⟩,⟨some 47,.nilCheck (.t 42),none,[]⟩,⟨some 48,.fieldAddr 1 (.t 47),none,[]⟩,⟨none,.store 1 (.t 48) (.t 46),none,[46]⟩] none [42,43,44,45,46,47,48]
theorem k41_9 : compileCode Tryd.prog noTk [18,39,50,2,0,3,4] p41_9 = some q41_9 := by kernel_rfl
noncomputable def p41_10 : Code := piece b41 [1,1,1,0,0,0,1,0,1,1,1,0,1,0]
def q41_10 : CCode := .region [⟨some 49,.call 58 [.t 3],none,[]⟩,⟨some 2,.move (.t 49),none,[49]⟩] none [49]
noncomputable def p41_11 : Code := piece b41 [1,1,1,0,0,0,1,0,1,1,1,1,0]
def q41_11 : CCode := .region [⟨some 51,.move (.t 4),none,[]⟩,⟨some 52,.bin (.eql) (.none) (.t 51) (.c (.d (.int (.u8) 92))),none,[]⟩,⟨some 50,.move (.t 52),none,[52]⟩] none [51,52]
theorem k41_11 : compileCode Tryd.prog noTk [18,39,50,2,0,3,4] p41_11 = some q41_11 := by kernel_rfl
noncomputable def p41_12 : Code := piece b41 [1,1,1,0,0,0,1,0,1,1,1,1,1,0,0]
def q41_12 : CCode := .region [⟨some 53,.move (.t 0),none,[]⟩,⟨some 54,.nilCheck (.t 53),none,[]⟩,⟨some 55,.fieldAddr 1 (.t 54),none,[]⟩,⟨some 56,.load false 1 (.t 55),none,[]⟩,⟨some 57,.bin (.add) (.none) (.t 56) (.c (.d (.int (.i64) 1))),none,[]⟩,⟨some 58,.nilCheck (.t 53),none,[]⟩,⟨some 59,.fieldAddr 1 (.t 58),none,[]⟩,⟨none,.store 1 (.t 59) (.t 57),none,[57]⟩] none [53,54,55,56,57,58,59]
theorem k41_12 : compileCode Tryd.prog noTk [18,39,50,2,0,3,4] p41_12 = some q41_12 := by kernel_rfl
noncomputable def p41_13 : Code := piece b41 [1,1,1,0,0,0,1,0,1,1,1,1,1,0,1]
def q41_13 : CCode := .region [⟨some 60,.move (.t 0),none,[]⟩,⟨some 61,.call 60 [.t 60],none,[]⟩,⟨some 62,.call 59 [.t 3,.t 61],none,[]⟩] none [60,61,62]
theorem k41_13 : compileCode Tryd.prog noTk [18,39,50,2,0,3,4] p41_13 = some q41_13 := by kernel_rfl
noncomputable def p41_4 : Code := piece b41 [1,1,1,0,0,0,1,0,1,1,1,1,1,1,0]
def q41_4 : CCode := .region [⟨some 9,.move (.t 4),none,[]⟩,⟨some 10,.call 61 [.t 3,.t 9],none,[]⟩] none [9,10]
noncomputable def p41_5 : Code := piece b41 [1,1,1,0,0,0,1,0,1,1,1,1,1,1,1]
def q41_5 : CCode := .region [⟨some 11,.move (.t 0),none,[]⟩,⟨some 12,.nilCheck (.t 11),none,[]⟩,⟨some 13,.fieldAddr 1 (.t 12),none,[]⟩,⟨some 14,.load false 1 (.t 13),none,[]⟩,⟨some 15,.bin (.add) (.none) (.t 14) (.c (.d (.int (.i64) 1))),none,[]⟩,⟨some 16,.nilCheck (.t 11),none,[]⟩,⟨some 17,.fieldAddr 1 (.t 16),none,[]⟩,⟨none,.store 1 (.t 17) (.t 15),none,[15]⟩] none [11,12,13,14,15,16,17]
theorem k41_5 : compileCode Tryd.prog noTk [18,39,50,2,0,3,4] p41_5 = some q41_5 := by kernel_rfl
noncomputable def b10 : Code := (Tryd.f10.body).getD .skip
noncomputable def p10_0 : Code := piece b10 [0]
def q10_0 : CCode := .region [⟨some 2,.new [.d (.int (.i64) 0),.d (.int (.i64) 0),.d (.str []),.fslice [],.fslice []],none,[]⟩,⟨some 3,.new [.d (.int (.i64) 0)],none,[]⟩,⟨some 4,.new [.d (.int (.i64) 0)],none,[]⟩] none []
theorem k10_0 : compileCode Tryd.prog noTk [9,21,40,2,3,4,0,5,6] p10_0 = some q10_0 := by kernel_rfl
noncomputable def p10_1 : Code := piece b10 [1,0,0]
def q10_1 : CCode := .region [⟨some 7,.move (.t 0),none,[]⟩,⟨some 8,.len (.sl) (.t 7),none,[]⟩,⟨some 9,.bin (.gtr) (.none) (.t 8) (.c (.d (.int (.i64) 16384))),none,[]⟩] none [7,8]
theorem k10_1 : compileCode Tryd.prog noTk [9,21,40,2,3,4,0,5,6] p10_1 = some q10_1 := by kernel_rfl
noncomputable def p10_2 : Code := piece b10 [1,0,1,0,0]
def q10_2 : CCode := .region [⟨some 10,.build [.d (.int (.i64) 0),.d (.int (.i64) 0),.d (.str []),.fslice [],.fslice []] [],none,[]⟩,⟨none,.store 5 (.t 2) (.t 10),none,[10]⟩,⟨none,.store 1 (.t 3) (.c (.d (.int (.i64) 13))),none,[]⟩,⟨none,.store 1 (.t 4) (.c (.d (.int (.i64) 16384))),none,[]⟩] none [10]
theorem k10_2 : compileCode Tryd.prog noTk [9,21,40,2,3,4,0,5,6] p10_2 = some q10_2 := by kernel_rfl
noncomputable def p10_3 : Code := piece b10 [1,1,0]
def q10_3 : CCode := .region [⟨some 11,.move (.t 0),none,[]⟩,⟨some 12,.toStr (.t 11),none,[]⟩,⟨some 13,.build [.d (.str []),.d (.int (.i64) 0)] [(0,1,.t 12)],none,[]⟩,⟨some 14,.box (.t 13),none,[]⟩,⟨some 5,.move (.t 14),none,[14]⟩] none [11,12,13,14]
theorem k10_3 : compileCode Tryd.prog noTk [9,21,40,2,3,4,0,5,6] p10_3 = some q10_3 := by kernel_rfl
noncomputable def p10_4 : Code := piece b10 [1,1,1,0,0]
def q10_4 : CCode := .region [⟨some 15,.move (.t 5),none,[]⟩,⟨some 16,.nilCheck (.t 15),none,[]⟩,⟨some 17,.fieldAddr 0 (.t 16),none,[]⟩,⟨some 18,.load false 1 (.t 17),none,[]⟩,⟨some 19,.call 22 [.t 18],none,[]⟩,⟨some 6,.move (.t 19),none,[19]⟩] none [15,16,17,18,19]
theorem k10_4 : compileCode Tryd.prog noTk [9,21,40,2,3,4,0,5,6] p10_4 = some q10_4 := by kernel_rfl
noncomputable def p10_5 : Code := piece b10 [1,1,1,0,1,0]
def q10_5 : CCode := .region [⟨some 20,.move (.t 6),none,[]⟩,⟨some 21,.bin (.geq) (.none) (.t 20) (.c (.d (.int (.i64) 0))),none,[]⟩] none [20]
theorem k10_5 : compileCode Tryd.prog noTk [9,21,40,2,3,4,0,5,6] p10_5 = some q10_5 := by kernel_rfl
noncomputable def p10_6 : Code := piece b10 [1,1,1,0,1,1,0,0]
def q10_6 : CCode := .region [⟨some 22,.build [.d (.int (.i64) 0),.d (.int (.i64) 0),.d (.str []),.fslice [],.fslice []] [],none,[]⟩,⟨some 23,.move (.t 6),none,[6]⟩,⟨none,.store 5 (.t 2) (.t 22),none,[22]⟩,⟨none,.store 1 (.t 3) (.c (.d (.int (.i64) 10))),none,[]⟩,⟨none,.store 1 (.t 4) (.t 23),none,[23]⟩] none [22,23]
theorem k10_6 : compileCode Tryd.prog noTk [9,21,40,2,3,4,0,5,6] p10_6 = some q10_6 := by kernel_rfl
noncomputable def p10_7 : Code := piece b10 [1,1,1,1,0]
noncomputable def p10_8 : Code := piece b10 [1,1,1,1,1,0]
def q10_8 : CCode := .region [⟨some 25,.move (.t 5),none,[]⟩,⟨some 26,.call 24 [.t 25],none,[]⟩] none [25,26]
theorem k10_8 : compileCode Tryd.prog noTk [9,21,40,2,3,4,0,5,6] p10_8 = some q10_8 := by kernel_rfl
noncomputable def p10_9 : Code := piece b10 [1,1,1,1,1,1,0]
def q10_9 : CCode := .region [⟨some 27,.move (.t 5),none,[]⟩,⟨some 28,.call 25 [.t 27,.c (.d (.int (.i64) 1))],none,[]⟩,⟨none,.store 5 (.t 2) (.t 28),none,[28]⟩] none [27,28]
theorem k10_9 : compileCode Tryd.prog noTk [9,21,40,2,3,4,0,5,6] p10_9 = some q10_9 := by kernel_rfl
noncomputable def p10_10 : Code := piece b10 [1,1,1,1,1,1,1,0]
def q10_10 : CCode := .region [⟨some 29,.move (.t 5),none,[]⟩,⟨some 30,.call 24 [.t 29],none,[]⟩] none [29,30]
theorem k10_10 : compileCode Tryd.prog noTk [9,21,40,2,3,4,0,5,6] p10_10 = some q10_10 := by kernel_rfl
noncomputable def p10_11 : Code := piece b10 [1,1,1,1,1,1,1,1,0,0]
def q10_11 : CCode := .region [⟨some 31,.move (.t 5),none,[]⟩,⟨some 32,.nilCheck (.t 31),none,[]⟩,⟨some 33,.fieldAddr 1 (.t 32),none,[]⟩,⟨some 34,.load false 1 (.t 33),none,[]⟩,⟨some 35,.move (.t 5),none,[]⟩,⟨some 36,.nilCheck (.t 35),none,[]⟩,⟨some 37,.fieldAddr 0 (.t 36),none,[]⟩,⟨some 38,.load false 1 (.t 37),none,[]⟩,⟨some 39,.len (.str) (.t 38),none,[]⟩,⟨some 40,.bin (.lss) (.none) (.t 34) (.t 39),none,[]⟩] none [31,32,33,34,35,36,37,38,39]
theorem k10_11 : compileCode Tryd.prog noTk [9,21,40,2,3,4,0,5,6] p10_11 = some q10_11 := by kernel_rfl
noncomputable def p10_12 : Code := piece b10 [1,1,1,1,1,1,1,1,0,1,0]
def q10_12 : CCode := .region [⟨some 41,.move (.t 5),none,[]⟩,⟨some 42,.move (.t 5),none,[]⟩,⟨some 43,.nilCheck (.t 42),none,[]⟩,⟨some 44,.fieldAddr 1 (.t 43),none,[]⟩,⟨some 45,.load false 1 (.t 44),none,[]⟩,⟨some 46,.call 26 [.t 41,.c (.d (.int (.i64) 16)),.t 45],none,[]⟩] none [41,42,43,44,45,46]
noncomputable def p10_13 : Code := piece b10 [1,1,1,1,1,1,1,1,1,0]
def q10_13 : CCode := .region [⟨some 47,.load true 5 (.t 2),none,[]⟩,⟨some 48,.call 27 [.t 47],none,[]⟩,⟨none,.store 5 (.t 2) (.t 48),none,[48]⟩,⟨none,.store 1 (.t 3) (.c (.d (.int (.i64) 0))),none,[]⟩,⟨none,.store 1 (.t 4) (.c (.d (.int (.i64) 0))),none,[]⟩] none [47,48]
theorem k10_13 : compileCode Tryd.prog noTk [9,21,40,2,3,4,0,5,6] p10_13 = some q10_13 := by kernel_rfl
noncomputable def b23 : Code := (Tryd.f23.body).getD .skip
noncomputable def p23_0 : Code := piece b23 [0]
noncomputable def p23_3 : Code := piece b23 [1,0,0]
def q23_3 : CCode := .region [⟨some 8,.bin (.eql) (.iface) (.t 6) (.c (.niliface)),none,[]⟩] none []
theorem k23_3 : compileCode Tryd.prog noTk [8,10,6,11,4,5,0,1,2] p23_3 = some q23_3 := by kernel_rfl
noncomputable def p23_4 : Code := piece b23 [1,0,1,0]
def q23_4 : CCode := .region [⟨some 3,.move (.t 6),none,[6]⟩] none [3]
theorem k23_4 : compileCode Tryd.prog noTk [8,10,6,11,4,5,0,1,2] p23_4 = some q23_4 := by kernel_rfl
noncomputable def p23_5 : Code := piece b23 [1,0,1,1,0]
noncomputable def p23_6 : Code := piece b23 [1,0,1,1,1,0,0]
def q23_6 : CCode := .region [⟨some 4,.new [.d (.int (.i64) 0),.d (.int (.i64) 0)],none,[]⟩,⟨none,.store 2 (.t 4) (.t 11),none,[11]⟩] none []
theorem k23_6 : compileCode Tryd.prog noTk [8,10,6,11,4,5,0,1,2] p23_6 = some q23_6 := by kernel_rfl
noncomputable def p23_7 : Code := piece b23 [1,0,1,1,1,0,1]
def q23_7 : CCode := .region [⟨some 12,.build [.d (.int (.i64) 0),.d (.int (.i64) 0),.d (.str []),.fslice [],.fslice []] [],none,[]⟩,⟨some 13,.fieldAddr 0 (.t 4),none,[]⟩,⟨some 14,.load false 1 (.t 13),none,[]⟩,⟨some 15,.fieldAddr 1 (.t 4),none,[]⟩,⟨some 16,.load false 1 (.t 15),none,[]⟩,⟨none,.store 5 (.t 0) (.t 12),none,[12]⟩,⟨none,.store 1 (.t 1) (.t 14),none,[14]⟩,⟨none,.store 1 (.t 2) (.t 16),none,[16]⟩] (some ⟨[],[],[],some [([],some 5),([2,4],some 6),([4],none)]⟩) [12,13,14,15,16]
theorem k23_7 : compileCode Tryd.prog noTk [8,10,6,11,4,5,0,1,2] p23_7 = some q23_7 := by kernel_rfl
noncomputable def p23_1 : Code := piece b23 [1,0,1,1,1,1,0]
def q23_1 : CCode := .region [⟨some 5,.move (.t 6),none,[6]⟩] none []
noncomputable def p23_2 : Code := piece b23 [1,0,1,1,1,1,1]
def q23_2 : CCode := .region [⟨some 7,.move (.t 5),none,[]⟩,⟨none,.panic (.t 7),none,[]⟩] none [7]
section
variable {lim : Nat} {H : AHeap} {r n : Nat} {s : Tx} {p : Nat} (x : Nat → AV)
theorem v41_0 : V (envN code prims1) (envP code pf prims1 (fun _ => none)) lim q41_0 ⟨[.ptr r 0,x 1,x 2,x 3,x 4,x 5,x 6,x 7,x 8,x 9,x 10,x 11,x 12,x 13,x 14,x 15,x 16,x 17,x 18,x 19,x 20,x 21,x 22,x 23,x 24,x 25,x 26,x 27,x 28,x 29,x 30,x 31,x 32,x 33,x 34,x 35,x 36,x 37,x 38,x 39,x 40,x 41,x 42,x 43,x 44,x 45,x 46,x 47,x 48,x 49,x 50,x 51,x 52,x 53,x 54,x 55,x 56,x 57,x 58,x 59,x 60,x 61,x 62],H⟩ (fun e st => e = .normal ∧ ∃ x : Nat → AV,st = ⟨[.ptr r 0,x 1,x 2,x 3,x 4,x 5,x 6,x 7,x 8,x 9,x 10,x 11,x 12,x 13,x 14,x 15,x 16,x 17,x 18,x 19,x 20,x 21,x 22,x 23,x 24,x 25,x 26,x 27,x 28,x 29,x 30,x 31,x 32,x 33,x 34,x 35,x 36,x 37,x 38,x 39,x 40,x 41,x 42,x 43,x 44,x 45,x 46,x 47,x 48,x 49,x 50,x 51,x 52,x 53,x 54,x 55,x 56,x 57,x 58,x 59,x 60,x 61,x 62],H⟩) (fun _ => False) := by
 unfold q41_0
 refine v_r trivial ?_
 exact ⟨by first | exact trivial | exact rfl,ex_st _ _ _ rfl⟩
theorem v41_1 (gr : H[r]? = some (rdO s p)) (hl : lim ≤ r) (hs : s.length ≤ 16384) (hp : p ≤ s.length) : V (envN code prims1) (envP code pf prims1 (fun _ => none)) lim q41_1 ⟨[.ptr r 0,x 1,x 2,x 3,x 4,x 5,x 6,x 7,x 8,x 9,x 10,x 11,x 12,x 13,x 14,x 15,x 16,x 17,x 18,x 19,x 20,x 21,x 22,x 23,x 24,x 25,x 26,x 27,x 28,x 29,x 30,x 31,x 32,x 33,x 34,x 35,x 36,x 37,x 38,x 39,x 40,x 41,x 42,x 43,x 44,x 45,x 46,x 47,x 48,x 49,x 50,x 51,x 52,x 53,x 54,x 55,x 56,x 57,x 58,x 59,x 60,x 61,x 62],H⟩
  (fun e st => e = .normal ∧ wantS s 34 p = .ok (p + 1) ∧ ∃ x : Nat → AV,st = ⟨[.ptr r 0,x 1,x 2,x 3,x 4,x 5,x 6,x 7,x 8,x 9,x 10,x 11,x 12,x 13,x 14,x 15,x 16,x 17,x 18,x 19,x 20,x 21,x 22,x 23,x 24,x 25,x 26,x 27,x 28,x 29,x 30,x 31,x 32,x 33,x 34,x 35,x 36,x 37,x 38,x 39,x 40,x 41,x 42,x 43,x 44,x 45,x 46,x 47,x 48,x 49,x 50,x 51,x 52,x 53,x 54,x 55,x 56,x 57,x 58,x 59,x 60,x 61,x 62],H.set r (rdO s (p + 1))⟩) (fun z => wantS s 34 p = .error (11,p) ∧ z = stopP 11 p) := by
 unfold q41_1
 rcases want_cases s 34 p with ⟨h1,h2⟩ | ⟨h1,h2⟩
 ·have ew : Ev (envN code prims1) 57 lim [.ptr r 0,.d (.int .u8 34)] H (.tuple []) _ := want_ok (pr := prims1) lim H r s p 34 gr hl hs h1
  (apply V_drw; focus (refine Evl.call (X := (envN code prims1)) (ew) (Evl.all fun k e1 => ?_); simp (maxSteps := 100000000) only [zz,zd,simprocAttr,e1]; (first | done | with_reducible exact rfl))) <;> (try simp only [zp,simprocAttr])
  exact ⟨by first | exact trivial | exact rfl,h2,ex_st _ _ _ rfl⟩
 ·refine V_region ?_; apply VO_take 1; (focus (intro _; simp only [zz,simprocAttr]; (first | done | with_reducible exact rfl))); simp only [List.drop_succ_cons,List.drop_zero]; refine VO_call rfl ?_; simp only [zz,simprocAttr]
  exact EvP.fv (want_no (pr := prims1) lim H r s p 34 gr hp h1) ⟨h2,rfl⟩
theorem v41_3 (gr : H[r]? = some (rdO s p)) (hp : p ≤ s.length) : V (envN code prims1) (envP code pf prims1 (fun _ => none)) lim q41_3 ⟨[.ptr r 0,x 1,x 2,.ptr n 0,x 4,x 5,x 6,x 7,x 8,x 9,x 10,x 11,x 12,x 13,x 14,x 15,x 16,x 17,x 18,x 19,x 20,x 21,x 22,x 23,x 24,x 25,x 26,x 27,x 28,x 29,x 30,x 31,x 32,x 33,x 34,x 35,x 36,x 37,x 38,x 39,x 40,x 41,x 42,x 43,x 44,x 45,x 46,x 47,x 48,x 49,x 50,x 51,x 52,x 53,x 54,x 55,x 56,x 57,x 58,x 59,x 60,x 61,x 62],H⟩
  (fun e st => e = .normal ∧ ∃ x : Nat → AV,st = ⟨[.ptr r 0,x 1,x 2,.ptr n 0,.d (.int .u8 (nx s p).toNat),x 5,x 6,x 7,x 8,x 9,x 10,x 11,x 12,x 13,x 14,x 15,x 16,x 17,x 18,x 19,x 20,x 21,x 22,x 23,x 24,x 25,x 26,x 27,x 28,x 29,x 30,x 31,x 32,x 33,x 34,x 35,x 36,x 37,x 38,x 39,x 40,x 41,x 42,x 43,x 44,x 45,x 46,x 47,x 48,x 49,x 50,x 51,x 52,x 53,x 54,x 55,x 56,x 57,x 58,x 59,x 60,x 61,x 62],H⟩) (fun _ => False) := by
 unfold q41_3
 (apply V_drw; focus (refine Evl.call (X := (envN code prims1)) (next_ev lim H r s p gr hp) (Evl.all fun k e1 => ?_); simp (maxSteps := 100000000) only [zz,zd,simprocAttr,e1]; (first | done | with_reducible exact rfl))) <;> (try simp only [zp,simprocAttr])
 exact ⟨by first | exact trivial | exact rfl,ex_st _ _ _ rfl⟩
theorem v41_6 (gr : H[r]? = some (rdO s p)) (c : UInt8) (b : Bool) (hb : b = (decide (p = s.length) || decide (c.toNat < 32))) : V (envN code prims1) (envP code pf prims1 (fun _ => none)) lim q41_6 ⟨[.ptr r 0,x 1,x 2,.ptr n 0,.d (.int .u8 c.toNat),x 5,x 6,x 7,x 8,x 9,x 10,x 11,x 12,x 13,x 14,x 15,x 16,x 17,x 18,x 19,x 20,x 21,x 22,x 23,x 24,x 25,x 26,x 27,x 28,x 29,x 30,x 31,x 32,x 33,x 34,x 35,x 36,x 37,x 38,x 39,x 40,x 41,x 42,x 43,x 44,x 45,x 46,x 47,x 48,x 49,x 50,x 51,x 52,x 53,x 54,x 55,x 56,x 57,x 58,x 59,x 60,x 61,x 62],H⟩
  (fun e st => e = .normal ∧ ∃ x : Nat → AV,st = ⟨[.ptr r 0,x 1,x 2,.ptr n 0,.d (.int .u8 c.toNat),x 5,x 6,x 7,x 8,x 9,x 10,x 11,x 12,x 13,x 14,x 15,x 16,x 17,boolD b,x 19,x 20,x 21,x 22,x 23,x 24,x 25,x 26,x 27,x 28,x 29,x 30,x 31,x 32,x 33,x 34,x 35,x 36,x 37,x 38,x 39,x 40,x 41,x 42,x 43,x 44,x 45,x 46,x 47,x 48,x 49,x 50,x 51,x 52,x 53,x 54,x 55,x 56,x 57,x 58,x 59,x 60,x 61,x 62],H⟩) (fun _ => False) := by
 unfold q41_6
 have e : decide ((c.toNat : Int) < 32) = decide (c.toNat < 32) := by rw [Bool.eq_iff_iff]; simp; omega
 cases h1 : decide (p = s.length) with
 | true =>
  rw [h1,Bool.true_or] at hb
  (apply V_rg; focus (intro k; simp (maxSteps := 100000000) only [zz,zd,simprocAttr,gr,p_eq,h1]; (first | done | with_reducible exact rfl))) <;> (try simp only [zp,simprocAttr])
  rw [hb]
  exact ⟨by first | exact trivial | exact rfl,ex_st _ _ _ rfl⟩
 | false =>
  rw [h1,Bool.false_or] at hb
  (apply V_rg; focus (intro k; simp (maxSteps := 100000000) only [zz,zd,simprocAttr,gr,p_eq,h1,e]; (first | done | with_reducible exact rfl))) <;> (try simp only [zp,simprocAttr])
  rw [hb]
  exact ⟨by first | exact trivial | exact rfl,ex_st _ _ _ rfl⟩
theorem v41_7 (gr : H[r]? = some (rdO s p)) (c : UInt8) (b : Bool) : V (envN code prims1) (envP code pf prims1 (fun _ => none)) lim q41_7 ⟨[.ptr r 0,x 1,x 2,.ptr n 0,.d (.int .u8 c.toNat),x 5,x 6,x 7,x 8,x 9,x 10,x 11,x 12,x 13,x 14,x 15,x 16,x 17,boolD b,x 19,x 20,x 21,x 22,x 23,x 24,x 25,x 26,x 27,x 28,x 29,x 30,x 31,x 32,x 33,x 34,x 35,x 36,x 37,x 38,x 39,x 40,x 41,x 42,x 43,x 44,x 45,x 46,x 47,x 48,x 49,x 50,x 51,x 52,x 53,x 54,x 55,x 56,x 57,x 58,x 59,x 60,x 61,x 62],H⟩ (fun _ _ => False) (fun z => z = stopP 11 p) := by
 unfold q41_7
 refine V_region ?_; apply VO_take 5; (focus (intro _; simp only [zz,simprocAttr,gr]; (first | done | with_reducible exact rfl))); simp only [List.drop_succ_cons,List.drop_zero]; refine VO_call rfl ?_; simp only [zz,simprocAttr]
 exact EvP.fv (stop_ev (pr := prims1) lim H r 11 p) rfl
theorem v41_8 (c : UInt8) (b b' : Bool) (hb : ((c.toNat : Int) == 34) = b') : V (envN code prims1) (envP code pf prims1 (fun _ => none)) lim q41_8 ⟨[.ptr r 0,x 1,x 2,.ptr n 0,.d (.int .u8 c.toNat),x 5,x 6,x 7,x 8,x 9,x 10,x 11,x 12,x 13,x 14,x 15,x 16,x 17,boolD b,x 19,x 20,x 21,x 22,x 23,x 24,x 25,x 26,x 27,x 28,x 29,x 30,x 31,x 32,x 33,x 34,x 35,x 36,x 37,x 38,x 39,x 40,x 41,x 42,x 43,x 44,x 45,x 46,x 47,x 48,x 49,x 50,x 51,x 52,x 53,x 54,x 55,x 56,x 57,x 58,x 59,x 60,x 61,x 62],H⟩
  (fun e st => e = .normal ∧ ∃ x : Nat → AV,st = ⟨[.ptr r 0,x 1,x 2,.ptr n 0,.d (.int .u8 c.toNat),x 5,x 6,x 7,x 8,x 9,x 10,x 11,x 12,x 13,x 14,x 15,x 16,x 17,x 18,x 19,x 20,x 21,x 22,x 23,x 24,x 25,x 26,x 27,x 28,x 29,x 30,x 31,x 32,x 33,x 34,x 35,x 36,x 37,x 38,boolD b',x 40,x 41,x 42,x 43,x 44,x 45,x 46,x 47,x 48,x 49,x 50,x 51,x 52,x 53,x 54,x 55,x 56,x 57,x 58,x 59,x 60,x 61,x 62],H⟩) (fun _ => False) := by
 unfold q41_8
 refine v_r hb ?_
 exact ⟨by first | exact trivial | exact rfl,ex_st _ _ _ rfl⟩
theorem v41_11 (c : UInt8) (b b' : Bool) (hb : ((c.toNat : Int) == 92) = b') : V (envN code prims1) (envP code pf prims1 (fun _ => none)) lim q41_11 ⟨[.ptr r 0,x 1,x 2,.ptr n 0,.d (.int .u8 c.toNat),x 5,x 6,x 7,x 8,x 9,x 10,x 11,x 12,x 13,x 14,x 15,x 16,x 17,x 18,x 19,x 20,x 21,x 22,x 23,x 24,x 25,x 26,x 27,x 28,x 29,x 30,x 31,x 32,x 33,x 34,x 35,x 36,x 37,x 38,boolD b,x 40,x 41,x 42,x 43,x 44,x 45,x 46,x 47,x 48,x 49,x 50,x 51,x 52,x 53,x 54,x 55,x 56,x 57,x 58,x 59,x 60,x 61,x 62],H⟩
  (fun e st => e = .normal ∧ ∃ x : Nat → AV,st = ⟨[.ptr r 0,x 1,x 2,.ptr n 0,.d (.int .u8 c.toNat),x 5,x 6,x 7,x 8,x 9,x 10,x 11,x 12,x 13,x 14,x 15,x 16,x 17,x 18,x 19,x 20,x 21,x 22,x 23,x 24,x 25,x 26,x 27,x 28,x 29,x 30,x 31,x 32,x 33,x 34,x 35,x 36,x 37,x 38,x 39,x 40,x 41,x 42,x 43,x 44,x 45,x 46,x 47,x 48,x 49,boolD b',x 51,x 52,x 53,x 54,x 55,x 56,x 57,x 58,x 59,x 60,x 61,x 62],H⟩) (fun _ => False) := by
 unfold q41_11
 refine v_r hb ?_
 exact ⟨by first | exact trivial | exact rfl,ex_st _ _ _ rfl⟩
theorem v41_9 (gr : H[r]? = some (rdO s p)) (hl : lim ≤ r) (hp : p < 100000) : V (envN code prims1) (envP code pf prims1 (fun _ => none)) lim q41_9 ⟨[.ptr r 0,x 1,x 2,.ptr n 0,x 4,x 5,x 6,x 7,x 8,x 9,x 10,x 11,x 12,x 13,x 14,x 15,x 16,x 17,x 18,x 19,x 20,x 21,x 22,x 23,x 24,x 25,x 26,x 27,x 28,x 29,x 30,x 31,x 32,x 33,x 34,x 35,x 36,x 37,x 38,x 39,x 40,x 41,x 42,x 43,x 44,x 45,x 46,x 47,x 48,x 49,x 50,x 51,x 52,x 53,x 54,x 55,x 56,x 57,x 58,x 59,x 60,x 61,x 62],H⟩
  (fun e st => e = .normal ∧ ∃ x : Nat → AV,st = ⟨[.ptr r 0,x 1,x 2,.ptr n 0,x 4,x 5,x 6,x 7,x 8,x 9,x 10,x 11,x 12,x 13,x 14,x 15,x 16,x 17,x 18,x 19,x 20,x 21,x 22,x 23,x 24,x 25,x 26,x 27,x 28,x 29,x 30,x 31,x 32,x 33,x 34,x 35,x 36,x 37,x 38,x 39,x 40,x 41,x 42,x 43,x 44,x 45,x 46,x 47,x 48,x 49,x 50,x 51,x 52,x 53,x 54,x 55,x 56,x 57,x 58,x 59,x 60,x 61,x 62],H.set r (rdO s (p + 1))⟩) (fun _ => False) := by
 unfold q41_9
 have wp : IntKind.i64.wrap ((p : Int) + 1) = ((p + 1 : Nat) : Int) := wpos hp
 refine v_r (j_ gr (j_ wp hl)) ?_
 exact ⟨by first | exact trivial | exact rfl,ex_st _ _ _ rfl⟩
theorem v41_12 (gr : H[r]? = some (rdO s p)) (hl : lim ≤ r) (hp : p < 100000) : V (envN code prims1) (envP code pf prims1 (fun _ => none)) lim q41_12 ⟨[.ptr r 0,x 1,x 2,.ptr n 0,x 4,x 5,x 6,x 7,x 8,x 9,x 10,x 11,x 12,x 13,x 14,x 15,x 16,x 17,x 18,x 19,x 20,x 21,x 22,x 23,x 24,x 25,x 26,x 27,x 28,x 29,x 30,x 31,x 32,x 33,x 34,x 35,x 36,x 37,x 38,x 39,x 40,x 41,x 42,x 43,x 44,x 45,x 46,x 47,x 48,x 49,x 50,x 51,x 52,x 53,x 54,x 55,x 56,x 57,x 58,x 59,x 60,x 61,x 62],H⟩
  (fun e st => e = .normal ∧ ∃ x : Nat → AV,st = ⟨[.ptr r 0,x 1,x 2,.ptr n 0,x 4,x 5,x 6,x 7,x 8,x 9,x 10,x 11,x 12,x 13,x 14,x 15,x 16,x 17,x 18,x 19,x 20,x 21,x 22,x 23,x 24,x 25,x 26,x 27,x 28,x 29,x 30,x 31,x 32,x 33,x 34,x 35,x 36,x 37,x 38,x 39,x 40,x 41,x 42,x 43,x 44,x 45,x 46,x 47,x 48,x 49,x 50,x 51,x 52,x 53,x 54,x 55,x 56,x 57,x 58,x 59,x 60,x 61,x 62],H.set r (rdO s (p + 1))⟩) (fun _ => False) := by
 unfold q41_12
 have wp : IntKind.i64.wrap ((p : Int) + 1) = ((p + 1 : Nat) : Int) := wpos hp
 refine v_r (j_ gr (j_ wp hl)) ?_
 exact ⟨by first | exact trivial | exact rfl,ex_st _ _ _ rfl⟩
theorem v41_5 (gr : H[r]? = some (rdO s p)) (hl : lim ≤ r) (hp : p < 100000) : V (envN code prims1) (envP code pf prims1 (fun _ => none)) lim q41_5 ⟨[.ptr r 0,x 1,x 2,.ptr n 0,x 4,x 5,x 6,x 7,x 8,x 9,x 10,x 11,x 12,x 13,x 14,x 15,x 16,x 17,x 18,x 19,x 20,x 21,x 22,x 23,x 24,x 25,x 26,x 27,x 28,x 29,x 30,x 31,x 32,x 33,x 34,x 35,x 36,x 37,x 38,x 39,x 40,x 41,x 42,x 43,x 44,x 45,x 46,x 47,x 48,x 49,x 50,x 51,x 52,x 53,x 54,x 55,x 56,x 57,x 58,x 59,x 60,x 61,x 62],H⟩
  (fun e st => e = .normal ∧ ∃ x : Nat → AV,st = ⟨[.ptr r 0,x 1,x 2,.ptr n 0,x 4,x 5,x 6,x 7,x 8,x 9,x 10,x 11,x 12,x 13,x 14,x 15,x 16,x 17,x 18,x 19,x 20,x 21,x 22,x 23,x 24,x 25,x 26,x 27,x 28,x 29,x 30,x 31,x 32,x 33,x 34,x 35,x 36,x 37,x 38,x 39,x 40,x 41,x 42,x 43,x 44,x 45,x 46,x 47,x 48,x 49,x 50,x 51,x 52,x 53,x 54,x 55,x 56,x 57,x 58,x 59,x 60,x 61,x 62],H.set r (rdO s (p + 1))⟩) (fun _ => False) := by
 unfold q41_5
 have wp : IntKind.i64.wrap ((p : Int) + 1) = ((p + 1 : Nat) : Int) := wpos hp
 refine v_r (j_ gr (j_ wp hl)) ?_
 exact ⟨by first | exact trivial | exact rfl,ex_st _ _ _ rfl⟩
end
end Go.Proofs.YtmhmjlfajlpabaaDoor
set_option maxHeartbeats 1000000
set_option linter.unusedVariables false
namespace Go.Proofs.YtmhmjlfajlpabaaDoor
open Go Go.Abs Go.Proofs Go.RowKit Go.Lib
structure TI (g0 : Gh) (w0 : World) (n b : Nat) (l : Tx) (g : Gh) (w : World) : Prop where
 wf : WF g0 w0 g w
 hn : n < g.n
 rho : g.rho n = b
 b0 : w0.heap.size ≤ b ∧ g.own b = .free ∧ g.bd b = 0
 bld : ∃ row,Bld b l row w ∧ ∀ k,row = some k → w0.heap.size ≤ k ∧ g.own k = .free ∧ g.bd k = 0
theorem Bld.lt {b : Nat} {l : Tx} {row : Option Nat} {w : World} (h : Bld b l row w) : b < w.heap.size := by
 obtain ⟨p,v,_,h,_⟩ := h; exact h.lt
theorem Bld.row_lt {b : Nat} {l : Tx} {row : Option Nat} {w : World} (h : Bld b l row w) {k : Nat} (hk : row = some k) : k < w.heap.size := by
 obtain ⟨p,v,_,h,e⟩ := h; exact h.row_lt (e.trans hk)
theorem TI.step {g0 : Gh} {w0 : World} {n b : Nat} {l : Tx} {g g' : Gh} {w w' : World} (h : TI g0 w0 n b l g w) (hw : WF g w g' w') : TI g0 w0 n b l g' w' := by
 obtain ⟨row,hb,hr⟩ := h.bld
 have i1 := hw.idle b hb.lt (.inl h.b0.2.1)
 refine ⟨h.wf.trans hw,Nat.lt_of_lt_of_le h.hn hw.n,(hw.rho n h.hn).trans h.rho,⟨h.b0.1,i1.2.1.trans h.b0.2.1,i1.2.2.trans h.b0.2.2⟩,row,hb.kept i1.1 (fun k hk => (hw.idle k (hb.row_lt hk) (.inl (hr k hk).2.1)).1),fun k hk => ?_⟩
 have i2 := hw.idle k (hb.row_lt hk) (.inl (hr k hk).2.1)
 exact ⟨(hr k hk).1,i2.2.1.trans (hr k hk).2.1,i2.2.2.trans (hr k hk).2.2⟩
theorem TI.use {g0 : Gh} {w0 : World} {H0 H : AHeap} (h0 : HeapOK g0 H0 w0) {n b : Nat} {l : Tx} {g : Gh} {w : World} (hH : HeapOK g H w) (h : TI g0 w0 n b l g w) :
  ∃ row,Bld b l row w ∧ (∀ w',Mv b row w w' → Frn g w w' ∧ WF g0 w0 g w') ∧ ∀ w' l',Wrote b l' row w w' → Frn g w w' ∧ TI g0 w0 n b l' g w' := by
 obtain ⟨row,hb,hr⟩ := h.bld
 have hm : ∀ w',Mv b row w w' → Frn g w w' ∧ WF g0 w0 g w' := fun w' hm => by
  have hf : Frn g w w' := ⟨hm.os,hm.tape,hm.output,hm.size,fun k hk ho => hm.block k hk (fun e => by
   subst e; rcases ho with ho | ho
   ·exact ho h.b0.2.1
   ·exact ho h.b0.2.2) (fun e => by
   obtain ⟨_,q1,q2⟩ := hr k e.symm
   rcases ho with ho | ho
   ·exact ho q1
   ·exact ho q2)⟩
  refine ⟨hf,hf.wf h0 h.wf fun k hk => hm.block k (Nat.lt_of_lt_of_le hk h.wf.size) (fun e => ?_) (fun e => ?_)⟩
  ·have := h.b0.1; omega
  ·have := (hr k e.symm).1; omega
 refine ⟨row,hb,hm,fun w' l' hw => ?_⟩
 obtain ⟨row',hb',hmv,hrow⟩ := hw
 obtain ⟨q1,q2⟩ := hm w' hmv
 refine ⟨q1,q2,h.hn,h.rho,h.b0,row',hb',fun k hk => ?_⟩
 rcases hrow with e | ⟨k',e,hk'⟩
 ·exact hr k (e.symm.trans hk)
 ·rw [e] at hk; injection hk with hk; subst hk
  have := hH.new k' hk'
  exact ⟨Nat.le_trans h.wf.size hk',this⟩
theorem Inv.bool {g : Gh} {st : St} {a : Act} {w : World} (h : Inv g st a w) {i : Nat} {b : Bool} (hT : st.T.getD i .undef = boolD b) : a.eval (.tmp i) = .bool b := by
 have := (slot_get h i).1
 rw [hT] at this
 show a.tmps.getD i undef = _
 generalize a.tmps.getD i undef = v at this
 cases this with
 | d _ _ h => cases h; rfl
def opsOf : Code → Array Oper
 | .region _ ops _ => ops
 | _ => #[]
noncomputable def opAt (c : Code) (i : Nat) : Oper := ((opsOf c).toList[i]?).getD ⟨none,.move (.tmp 0),0,"",#[],none⟩
theorem b41_eq : b41 = .seq p41_0 (.seq p41_1 (.seq p41_2 (.block 0 (.loop (.block 1 (.seq p41_3 (.block 2 (.seq p41_6 (.cond (.tmp 18) p41_7 (.seq p41_8 (.cond (.tmp 39) (.seq p41_9 (.seq p41_10 .ret)) (.seq p41_11 (.cond (.tmp 50) (.seq p41_12 p41_13) (.seq p41_4 p41_5)))))))))))))) := by kernel_rfl
theorem r2_eq : p41_2 = .region 2 #[opAt p41_2 0] false := by kernel_rfl
theorem r2_op : opAt p41_2 0 = ⟨some 3,.alloc 78,(opAt p41_2 0).type,(opAt p41_2 0).pos,(opAt p41_2 0).after,none⟩ := by kernel_rfl
theorem r10_eq : p41_10 = .region 10 #[opAt p41_10 0,opAt p41_10 1] false := by kernel_rfl
theorem r13_eq : p41_13 = .region 13 #[opAt p41_13 0,opAt p41_13 1,opAt p41_13 2] false := by kernel_rfl
theorem r4_eq : p41_4 = .region 4 #[opAt p41_4 0,opAt p41_4 1] false := by kernel_rfl
theorem r2_wp {Q : Exit → Act → World → Prop} {a : Act} {w : World} (h : Q .normal (a.put (some 3) (.pointer (some ⟨w.heap.size,0,none⟩))) (w.alloc (.cells #[.pointer none,.slice none 0 0] 78))) : p41_2.wp Tryd.prog Q a w := by
 rw [r2_eq]
 refine wp_region_list ?_
 rw [r2_op]
 generalize (opAt p41_2 0).pos = ps
 generalize (opAt p41_2 0).type = ty
 generalize (opAt p41_2 0).after = af
 go_wp2
 exact h
end Go.Proofs.YtmhmjlfajlpabaaDoor
set_option maxHeartbeats 1000000
set_option linter.unusedVariables false
namespace Go.Proofs.YtmhmjlfajlpabaaDoor
open Go Go.Abs Go.Proofs Go.RowKit Go.Lib
abbrev TS (r n : Nat) (x : Nat → AV) : List AV := [.ptr r 0,x 1,x 2,.ptr n 0,x 4,x 5,x 6,x 7,x 8,x 9,x 10,x 11,x 12,x 13,x 14,x 15,x 16,x 17,x 18,x 19,x 20,x 21,x 22,x 23,x 24,x 25,x 26,x 27,x 28,x 29,x 30,x 31,x 32,x 33,x 34,x 35,x 36,x 37,x 38,x 39,x 40,x 41,x 42,x 43,x 44,x 45,x 46,x 47,x 48,x 49,x 50,x 51,x 52,x 53,x 54,x 55,x 56,x 57,x 58,x 59,x 60,x 61,x 62]
abbrev TS4 (r n : Nat) (c : UInt8) (x : Nat → AV) : List AV := [.ptr r 0,x 1,x 2,.ptr n 0,.d (.int .u8 c.toNat),x 5,x 6,x 7,x 8,x 9,x 10,x 11,x 12,x 13,x 14,x 15,x 16,x 17,x 18,x 19,x 20,x 21,x 22,x 23,x 24,x 25,x 26,x 27,x 28,x 29,x 30,x 31,x 32,x 33,x 34,x 35,x 36,x 37,x 38,x 39,x 40,x 41,x 42,x 43,x 44,x 45,x 46,x 47,x 48,x 49,x 50,x 51,x 52,x 53,x 54,x 55,x 56,x 57,x 58,x 59,x 60,x 61,x 62]
def TRes (g0 : Gh) (w0 : World) (H0 : AHeap) (lim r : Nat) (s : Tx) (p : Nat) (e : Ending) (w' : World) : Prop :=
 (∃ t q v g',textS s p = .ok (t,q) ∧ e = .returned v ∧ WF g0 w0 g' w' ∧ HeapOK g' (H0.set r (rdO s q)) w' ∧ VR g' w' (.d (.str t)) v) ∨
 ∃ er v g' H',textS s p = .error er ∧ e = .panicked [{ v := .iface (stopP er.1 er.2).1 v,recovered := false }] ∧ WF g0 w0 g' w' ∧ Ext lim H0 H' ∧ HeapOK g' H' w' ∧ VR g' w' (.d (stopP er.1 er.2).2) v
abbrev BP (g0 : Gh) (w0 : World) (H0 : AHeap) (lim r : Nat) (s : Tx) (p : Nat) : Exit → Act → World → Prop := bodyPost Tryd.prog Tryd.f41 (TRes g0 w0 H0 lim r s p)
theorem chars_eq (s : Tx) (f : Nat) (acc : Tx) (p : Nat) : charsS s (f + 1) acc p = match s[p]? with
  | none => .error (11,p)
  | some c =>
   if c.toNat < 32 then .error (11,p)
   else if c = 34 then .ok (acc,p + 1)
   else if c = 92 then match escS s (p + 1) with
    | .error e => .error e
    | .ok (n,q) => charsS s f (acc ++ runeB n) q
   else charsS s f (acc ++ [c]) (p + 1) := by
 conv => lhs; unfold charsS
 rfl
theorem esc_rune {s : Tx} {p n q : Nat} (h : escS s p = .ok (n,q)) : runeOK n := by
 unfold runeOK
 unfold escS at h
 split at h
 ·cases h
 ·rename_i c hc
  have hl := c.toNat_lt
  iterate 6 (split at h; · (have := congrArg Prod.fst (Except.ok.inj h); simp only at this; omega))
  split at h
  ·split at h
   ·cases h
   ·rename_i n1 p1 h1
    have := (code_lt h1).1
    split at h
    ·have := congrArg Prod.fst (Except.ok.inj h); simp only at this; omega
    ·split at h
     ·cases h
     ·split at h
      ·cases h
      ·rename_i n2 p2 h2
       have := (code_lt h2).1
       split at h
       ·cases h
       ·have := congrArg Prod.fst (Except.ok.inj h); simp only at this; omega
  ·cases h
theorem runeB_len (n : Nat) : (runeB n).length ≤ 4 := by unfold runeB; (repeat' split) <;> simp
section
variable {g0 : Gh} {w0 : World} {H0 : AHeap} {lim r : Nat} {s : Tx} {p : Nat}
theorem pan_end {g : Gh} {w : World} {H : AHeap} (hw : WF g0 w0 g w) (hx : Ext lim H0 H) {er : Nat × Nat} (he : textS s p = .error er) : PanQ g w lim H (stopP er.1 er.2) (BP g0 w0 H0 lim r s p) :=
 fun g' H' v a' w' k0 k1 kx k2 k3 => ⟨k0,.inr ⟨er,v,g',H',he,rfl,hw.trans k1,hx.trans kx,k2,k3⟩⟩
theorem kk_get (gr : r < H0.length) (o : AObj) : (H0.set r o ++ [AObj.dead])[r]? = some o := by
 rw [List.getElem?_append_left (by simpa using gr)]; simp [gr]
theorem kk_set (gr : r < H0.length) (o o' : AObj) : (H0.set r o ++ [AObj.dead]).set r o' = H0.set r o' ++ [AObj.dead] := by
 rw [List.set_append_left _ _ (by simpa using gr),List.set_set]
theorem kk_ext (hl : lim ≤ r) (hlim : lim ≤ H0.length) (o : AObj) : Ext lim H0 (H0.set r o ++ [AObj.dead]) := (Ext.set _ hl).trans (Ext.app _ (by simpa using hlim))
theorem c10_1 : [opAt p41_10 1].mapM (compileOper Tryd.prog noTk [opAt p41_10 0,opAt p41_10 1]) = some [⟨some 2,.move (.t 49),none,[49]⟩] := by kernel_rfl
theorem c13_0 : compileOper Tryd.prog noTk [opAt p41_13 0,opAt p41_13 1,opAt p41_13 2] (opAt p41_13 0) = some ⟨some 60,.move (.t 0),none,[]⟩ := by kernel_rfl
theorem c13_1 : compileOper Tryd.prog noTk [opAt p41_13 0,opAt p41_13 1,opAt p41_13 2] (opAt p41_13 1) = some ⟨some 61,.call 60 [.t 60],none,[]⟩ := by kernel_rfl
theorem c4_0 : compileOper Tryd.prog noTk [opAt p41_4 0,opAt p41_4 1] (opAt p41_4 0) = some ⟨some 9,.move (.t 4),none,[]⟩ := by kernel_rfl
theorem o10_0 : (opAt p41_10 0).op = .call { callee := .value (.func 58),args := #[.tmp 3],argTypes := #[78] } ∧ (opAt p41_10 0).guard = none ∧ (opAt p41_10 0).dst = some 49 := ⟨by kernel_rfl,by kernel_rfl,by kernel_rfl⟩
theorem o13_2 : (opAt p41_13 2).op = .call { callee := .value (.func 59),args := #[.tmp 3,.tmp 61],argTypes := #[78,21] } ∧ (opAt p41_13 2).guard = none ∧ (opAt p41_13 2).dst = some 62 := ⟨by kernel_rfl,by kernel_rfl,by kernel_rfl⟩
theorem o4_1 : (opAt p41_4 1).op = .call { callee := .value (.func 61),args := #[.tmp 3,.tmp 9],argTypes := #[78,5] } ∧ (opAt p41_4 1).guard = none ∧ (opAt p41_4 1).dst = some 10 := ⟨by kernel_rfl,by kernel_rfl,by kernel_rfl⟩
theorem fn58 : FnOK Tryd.prog 58 := ⟨_,Tryd.func58,by kernel_rfl,by kernel_rfl⟩
theorem fn59 : FnOK Tryd.prog 59 := ⟨_,Tryd.func59,by kernel_rfl,by kernel_rfl⟩
theorem fn61 : FnOK Tryd.prog 61 := ⟨_,Tryd.func61,by kernel_rfl,by kernel_rfl⟩
theorem Inv.ptr {g : Gh} {st : St} {a : Act} {w : World} (h : Inv g st a w) {i n : Nat} (hT : st.T.getD i .undef = .ptr n 0) : a.eval (.tmp i) = .pointer (some ⟨g.rho n,0,none⟩) := by
 have := (slot_get h i).1
 rw [hT] at this
 show a.tmps.getD i undef = _
 generalize a.tmps.getD i undef = v at this
 cases this; rfl
theorem Inv.num {g : Gh} {st : St} {a : Act} {w : World} (h : Inv g st a w) {i : Nat} {k : IntKind} {n : Int} (hT : st.T.getD i .undef = .d (.int k n)) : a.eval (.tmp i) = .int k n := by
 have := (slot_get h i).1
 rw [hT] at this
 show a.tmps.getD i undef = _
 generalize a.tmps.getD i undef = v at this
 cases this with
 | d _ _ h => cases h; rfl
end
end Go.Proofs.YtmhmjlfajlpabaaDoor
set_option maxHeartbeats 2000000
set_option linter.unusedVariables false
namespace Go.Proofs.YtmhmjlfajlpabaaDoor
open Go Go.Abs Go.Proofs Go.RowKit Go.Lib
section
variable {g0 : Gh} {w0 : World} {H0 : AHeap} {lim r : Nat} {s : Tx} {p : Nat}
theorem res41 : compileRes Tryd.prog Tryd.f41.results.toList = some [.t 2] := by kernel_rfl
theorem v41_13 {lim : Nat} {H : AHeap} {r n : Nat} (x : Nat → AV) {z : PV} (h : EvP (envP code pf prims1 (fun _ => none)) 60 lim [.ptr r 0] H z) : V (envN code prims1) (envP code pf prims1 (fun _ => none)) lim q41_13 ⟨[.ptr r 0,x 1,x 2,.ptr n 0,x 4,x 5,x 6,x 7,x 8,x 9,x 10,x 11,x 12,x 13,x 14,x 15,x 16,x 17,x 18,x 19,x 20,x 21,x 22,x 23,x 24,x 25,x 26,x 27,x 28,x 29,x 30,x 31,x 32,x 33,x 34,x 35,x 36,x 37,x 38,x 39,x 40,x 41,x 42,x 43,x 44,x 45,x 46,x 47,x 48,x 49,x 50,x 51,x 52,x 53,x 54,x 55,x 56,x 57,x 58,x 59,x 60,x 61,x 62],H⟩ (fun _ _ => False) (fun z' => z' = z) := by
 unfold q41_13
 refine V_region ?_; apply VO_take 1; (focus (intro _; simp only [zz,simprocAttr]; (first | done | with_reducible exact rfl))); simp only [List.drop_succ_cons,List.drop_zero]; refine VO_call rfl ?_; simp only [zz,simprocAttr]
 exact EvP.fv h rfl
noncomputable abbrev roundC : Code := .block 1 (.seq p41_3 (.block 2 (.seq p41_6 (.cond (.tmp 18) p41_7 (.seq p41_8 (.cond (.tmp 39) (.seq p41_9 (.seq p41_10 .ret)) (.seq p41_11 (.cond (.tmp 50) (.seq p41_12 p41_13) (.seq p41_4 p41_5)))))))))
theorem text_loop (hS : EnvS Tryd.prog pf (envN code prims1) (envP code pf prims1 (fun _ => none))) (h0 : HeapOK g0 H0 w0) (hr : r < H0.length) (hl : lim ≤ r) (hlim : lim ≤ H0.length) (hs : s.length ≤ 16384) {b : Nat} :
  ∀ (m : Nat) {acc : Tx} {q f : Nat} {g : Gh} {a : Act} {w : World} {x : Nat → AV},m = s.length - q → q ≤ s.length → acc.length ≤ 4 * q → s.length - q + 1 ≤ f → textS s p = charsS s f acc q → TI g0 w0 H0.length b acc g w →
   Inv g ⟨TS r H0.length x,H0.set r (rdO s q) ++ [.dead]⟩ a w → LoopAt Tryd.prog roundC (Exit.inBlock 0 (BP g0 w0 H0 lim r s p)) a w := by
 intro m
 induction m using Nat.strongRecOn with
 | _ m ih =>
 intro acc q f g a w x hm hq hac hf hts hti hinv
 obtain ⟨f,rfl⟩ : ∃ k,f = k + 1 := ⟨f - 1,by omega⟩
 rw [chars_eq] at hts
 have hll : ∀ o : AObj,lim ≤ (H0.set r o ++ [AObj.dead]).length := fun o => by simp; omega
 have gr := kk_get hr (rdO s q)
 refine loopAt_step (wp_block (wp_seq (V_wp hS k41_3 rfl hinv (hll _) (v41_3 x gr hq) ?_ (fun _ h => h.elim))))
 rintro e st1 g1 a1 w1 ⟨rfl,x1,rfl⟩ hw1 hi1 hx1
 have ht1 := hti.step hw1
 generalize hc : nx s q = c at hi1
 obtain ⟨bb,hbb⟩ : ∃ bb,bb = (decide (q = s.length) || decide (c.toNat < 32)) := ⟨_,rfl⟩
 show Code.wp Tryd.prog (.block 2 _) _ a1 w1
 refine wp_block (wp_seq (V_wp hS k41_6 rfl hi1 (hll _) (v41_6 x1 gr c bb hbb) ?_ (fun _ h => h.elim)))
 rintro e st2 g2 a2 w2 ⟨rfl,x2,rfl⟩ hw2 hi2 hx2
 have ht2 := ht1.step hw2
 show Code.wp Tryd.prog (.cond (.tmp 18) _ _) _ a2 w2
 refine wp_cond (Inv.bool (b := bb) hi2 rfl) ?_
 cases bb with
 | true =>
  have he : textS s p = .error (11,q) := by
   rw [hts]
   by_cases hqe : q = s.length
   ·rw [List.getElem?_eq_none (by omega)]
   ·have hql : q < s.length := by omega
    have : s[q]? = some c := by rw [get_at hql,hc]
    have h32 : c.toNat < 32 := by
     rcases Bool.or_eq_true_iff.1 hbb.symm with h | h
     ·exact absurd (of_decide_eq_true h) hqe
     ·exact of_decide_eq_true h
    rw [this]
    simp only [if_pos h32]
  rw [if_pos rfl]
  refine V_wp hS k41_7 rfl hi2 (hll _) (v41_7 x2 gr c true) (fun _ _ _ _ _ h => h.elim) ?_
  rintro _ rfl
  intro g' H' v a' w' k0 k1 kx k2 k3
  exact pan_end ht2.wf (kk_ext hl hlim _) he g' H' v a' w' k0 k1 kx k2 k3
 | false =>
  have hbf := Bool.or_eq_false_iff.1 hbb.symm
  have hqe : ¬ q = s.length := of_decide_eq_false hbf.1
  have h32 : ¬ c.toNat < 32 := of_decide_eq_false hbf.2
  have hql : q < s.length := by omega
  have hsq : s[q]? = some c := by rw [get_at hql,hc]
  rw [hsq] at hts
  simp only [if_neg h32] at hts
  rw [if_neg (by simp)]
  obtain ⟨b2,hb2⟩ : ∃ b2,((c.toNat : Int) == 34) = b2 := ⟨_,rfl⟩
  refine wp_seq (V_wp hS k41_8 rfl hi2 (hll _) (v41_8 x2 c false b2 hb2) ?_ (fun _ h => h.elim))
  rintro e st3 g3 a3 w3 ⟨rfl,x3,rfl⟩ hw3 hi3 hx3
  have ht3 := ht2.step hw3
  show Code.wp Tryd.prog (.cond (.tmp 39) _ _) _ a3 w3
  refine wp_cond (Inv.bool (b := b2) hi3 rfl) ?_
  by_cases h34 : c = 34
  ·obtain rfl : b2 = true := by rw [← hb2]; exact u8_t h34 rfl
   rw [if_pos h34] at hts
   rw [if_pos rfl]
   refine wp_seq (V_wp hS k41_9 rfl hi3 (hll _) (v41_9 (fun i => if i = 4 then .d (.int .u8 c.toNat) else if i = 39 then boolD true else x3 i) gr hl (by omega)) ?_ (fun _ h => h.elim))
   rintro e st4 g4 a4 w4 ⟨rfl,x4,rfl⟩ hw4 hi4 hx4
   have ht4 := ht3.step hw4
   rw [kk_set hr] at hi4
   show Code.wp Tryd.prog (.seq p41_10 .ret) _ a4 w4
   obtain ⟨row,hbl,hmv,hwr⟩ := ht4.use h0 hi4.heap
   rw [r10_eq]
   refine wp_seq (wp_region_list ?_)
   have hp3 : a4.eval (.tmp 3) = .pointer (some ⟨b,0,none⟩) := by
    rw [Inv.ptr (n := H0.length) hi4 rfl,ht4.rho]
   refine hand_call o10_0.2.1 o10_0.1 fn58 (R := fun e w' => e = .returned (.string ⟨acc.toArray⟩) ∧ Mv b row w4 w') ?_ ?_
   ·rw [show (#[Operand.tmp 3].map a4.eval) = #[a4.eval (.tmp 3)] by simp,hp3]
    exact str_any hbl
   rintro e w5 ⟨rfl,hm5⟩
   refine ⟨_,rfl,?_⟩
   obtain ⟨hf5,hwf5⟩ := hmv w5 hm5
   have hi5 := hf5.inv hi4
   rw [o10_0.2.2]
   have hi6 := hi5.put (d := 49) (x := .d (.str acc)) (v := .string ⟨acc.toArray⟩) (.d _ _ (.str _ _ rfl)) (Triv.d _ _)
   refine list_sound (lim := lim) (hS.e 0) _ _ c10_1 hi6 (by simpa using hll (rdO s (q + 1))) (show runOps _ _ _ _ = some ⟨((TS r H0.length x4).set 49 (.d (.str acc))).set 2 (.d (.str acc)),H0.set r (rdO s (q + 1)) ++ [.dead]⟩ from rfl) ?_
   intro g7 a7 w7 hw7 hi7 hx7
   refine wp_ret ?_
   obtain ⟨v,hv1,hv2,hv3⟩ := res_one hi7 res41 (show resV _ _ [.t 2] = some [.d (.str acc)] from rfl)
   refine ⟨hi7.defers,v,hv1,.inl ⟨acc,q + 1,v,g7.cut w7 H0.length,hts,rfl,wf_cut (hwf5.trans hw7) h0.n,?_,?_⟩⟩
   ·exact heap_cut1 h0 hi7.heap hr (kk_get hr _) rfl (by rw [List.take_append_of_le_length (by simp),List.take_of_length_le (by simp)])
   ·cases hv2 with
    | d _ _ h => cases h with | str _ _ h => exact .d _ _ (.str _ _ h)
  ·obtain rfl : b2 = false := by rw [← hb2]; exact u8_f h34 rfl
   rw [if_neg h34] at hts
   rw [if_neg (by simp)]
   obtain ⟨b3,hb3⟩ : ∃ b3,((c.toNat : Int) == 92) = b3 := ⟨_,rfl⟩
   refine wp_seq (V_wp hS k41_11 rfl hi3 (hll _) (v41_11 x3 c false b3 hb3) ?_ (fun _ h => h.elim))
   rintro e st4 g4 a4 w4 ⟨rfl,x4,rfl⟩ hw4 hi4 hx4
   have ht4 := ht3.step hw4
   show Code.wp Tryd.prog (.cond (.tmp 50) _ _) _ a4 w4
   refine wp_cond (Inv.bool (b := b3) hi4 rfl) ?_
   by_cases h92 : c = 92
   ·obtain rfl : b3 = true := by rw [← hb3]; exact u8_t h92 rfl
    rw [if_pos h92] at hts
    rw [if_pos rfl]
    refine wp_seq (V_wp hS k41_12 rfl hi4 (hll _) (v41_12 (fun i => if i = 4 then .d (.int .u8 c.toNat) else if i = 50 then boolD true else x4 i) gr hl (by omega)) ?_ (fun _ h => h.elim))
    rintro e st5 g5 a5 w5 ⟨rfl,x5,rfl⟩ hw5 hi5 hx5
    have ht5 := ht4.step hw5
    rw [kk_set hr] at hi5
    show Code.wp Tryd.prog p41_13 _ a5 w5
    have hev := esc_ev (pr := prims1) (pP := fun _ => none) lim _ r s (q + 1) (kk_get hr (rdO s (q + 1))) hl hs (by omega) (by omega)
    cases hes : escS s (q + 1) with
    | error er =>
     rw [hes] at hts
     refine V_wp hS k41_13 rfl hi5 (hll _) (v41_13 x5 (hev.noJ hes)) (fun _ _ _ _ _ h => h.elim) ?_
     rintro _ rfl
     intro g' H' v a' w' k0 k1 kx k2 k3
     exact pan_end ht5.wf (kk_ext hl hlim _) hts g' H' v a' w' k0 k1 kx k2 k3
    | ok y =>
     obtain ⟨n,q2⟩ := y
     rw [hes] at hts
     have hn := esc_rune hes
     have hq2 := esc_lt hes
     have hev2 := hev.okJ hes
     rw [kk_set hr] at hev2
     obtain ⟨k0,hk0⟩ : ∃ k0,∀ k,k0 ≤ k → (envN code prims1) k 60 lim [.ptr r 0] (H0.set r (rdO s (q + 1)) ++ [.dead]) = some (i32D n,H0.set r (rdO s q2) ++ [.dead]) := Ev.out hev2
     have hk1 := hk0 k0 (Nat.le_refl _)
     rw [r13_eq]
     refine wp_region_list ?_
     refine list_step (lim := lim) (st' := ⟨[.ptr r 0,x5 1,x5 2,.ptr H0.length 0,x5 4,x5 5,x5 6,x5 7,x5 8,x5 9,x5 10,x5 11,x5 12,x5 13,x5 14,x5 15,x5 16,x5 17,x5 18,x5 19,x5 20,x5 21,x5 22,x5 23,x5 24,x5 25,x5 26,x5 27,x5 28,x5 29,x5 30,x5 31,x5 32,x5 33,x5 34,x5 35,x5 36,x5 37,x5 38,x5 39,x5 40,x5 41,x5 42,x5 43,x5 44,x5 45,x5 46,x5 47,x5 48,x5 49,x5 50,x5 51,x5 52,x5 53,x5 54,x5 55,x5 56,x5 57,x5 58,x5 59,.ptr r 0,x5 61,x5 62],_⟩) c13_0 (hS.e k0) hi5 (hll _) (by simp only [zz,simprocAttr]; rfl) ?_
     intro g6 a6 w6 hw6 hi6 hx6
     have ht6 := ht5.step hw6
     refine list_step (lim := lim) (st' := ⟨[.ptr r 0,x5 1,x5 2,.ptr H0.length 0,x5 4,x5 5,x5 6,x5 7,x5 8,x5 9,x5 10,x5 11,x5 12,x5 13,x5 14,x5 15,x5 16,x5 17,x5 18,x5 19,x5 20,x5 21,x5 22,x5 23,x5 24,x5 25,x5 26,x5 27,x5 28,x5 29,x5 30,x5 31,x5 32,x5 33,x5 34,x5 35,x5 36,x5 37,x5 38,x5 39,x5 40,x5 41,x5 42,x5 43,x5 44,x5 45,x5 46,x5 47,x5 48,x5 49,x5 50,x5 51,x5 52,x5 53,x5 54,x5 55,x5 56,x5 57,x5 58,x5 59,.ptr r 0,i32D n,x5 62],_⟩) c13_1 (hS.e k0) hi6 (hll _) (by simp only [zz,simprocAttr,hk1]; rfl) ?_
     intro g7 a7 w7 hw7 hi7 hx7
     have ht7 := ht6.step hw7
     obtain ⟨row,hbl,hmv,hwr⟩ := ht7.use h0 hi7.heap
     have hp3 : a7.eval (.tmp 3) = .pointer (some ⟨b,0,none⟩) := by
      rw [Inv.ptr (n := H0.length) hi7 rfl,ht7.rho]
     have hp61 : a7.eval (.tmp 61) = .int .i32 n := Inv.num hi7 rfl
     refine hand_call o13_2.2.1 o13_2.1 fn59 (R := fun e w' => (∃ v,e = .returned v) ∧ Wrote b (acc ++ runeB n) row w7 w') ?_ ?_
     ·rw [show (#[Operand.tmp 3,Operand.tmp 61].map a7.eval) = #[a7.eval (.tmp 3),a7.eval (.tmp 61)] by simp,hp3,hp61]
      exact wr_any n hn hbl (by omega)
     rintro e w8 ⟨⟨v,rfl⟩,hm8⟩
     refine ⟨_,rfl,?_⟩
     obtain ⟨hf8,ht8⟩ := hwr w8 _ hm8
     rw [o13_2.2.2]
     have hi8 := (hf8.inv hi7).put (d := 62) (x := .undef) (v := v) (.undef _) (fun _ e => by cases e)
     show LoopAt Tryd.prog roundC _ _ _
     have hlen := runeB_len n
     exact ih (s.length - q2) (by omega) (x := fun i => (([.ptr r 0,x5 1,x5 2,.ptr H0.length 0,x5 4,x5 5,x5 6,x5 7,x5 8,x5 9,x5 10,x5 11,x5 12,x5 13,x5 14,x5 15,x5 16,x5 17,x5 18,x5 19,x5 20,x5 21,x5 22,x5 23,x5 24,x5 25,x5 26,x5 27,x5 28,x5 29,x5 30,x5 31,x5 32,x5 33,x5 34,x5 35,x5 36,x5 37,x5 38,x5 39,x5 40,x5 41,x5 42,x5 43,x5 44,x5 45,x5 46,x5 47,x5 48,x5 49,x5 50,x5 51,x5 52,x5 53,x5 54,x5 55,x5 56,x5 57,x5 58,x5 59,.ptr r 0,i32D n,x5 62]).set 62 AV.undef).getD i .undef) rfl hq2.2 (by simp; omega) (by omega) hts ht8 hi8
   ·obtain rfl : b3 = false := by rw [← hb3]; exact u8_f h92 rfl
    rw [if_neg h92] at hts
    rw [if_neg (by simp)]
    rw [r4_eq]
    refine wp_seq (wp_region_list ?_)
    refine list_step (lim := lim) (st' := ⟨[.ptr r 0,x4 1,x4 2,.ptr H0.length 0,.d (.int .u8 c.toNat),x4 5,x4 6,x4 7,x4 8,.d (.int .u8 c.toNat),x4 10,x4 11,x4 12,x4 13,x4 14,x4 15,x4 16,x4 17,x4 18,x4 19,x4 20,x4 21,x4 22,x4 23,x4 24,x4 25,x4 26,x4 27,x4 28,x4 29,x4 30,x4 31,x4 32,x4 33,x4 34,x4 35,x4 36,x4 37,x4 38,x4 39,x4 40,x4 41,x4 42,x4 43,x4 44,x4 45,x4 46,x4 47,x4 48,x4 49,boolD false,x4 51,x4 52,x4 53,x4 54,x4 55,x4 56,x4 57,x4 58,x4 59,x4 60,x4 61,x4 62],_⟩) c4_0 (hS.e 0) hi4 (hll _) (by simp only [zz,simprocAttr]; rfl) ?_
    intro g6 a6 w6 hw6 hi6 hx6
    have ht6 := ht4.step hw6
    obtain ⟨row,hbl,hmv,hwr⟩ := ht6.use h0 hi6.heap
    have hp3 : a6.eval (.tmp 3) = .pointer (some ⟨b,0,none⟩) := by
     rw [Inv.ptr (n := H0.length) hi6 rfl,ht6.rho]
    have hp9 : a6.eval (.tmp 9) = .int .u8 c.toNat := Inv.num hi6 rfl
    refine hand_call o4_1.2.1 o4_1.1 fn61 (R := fun e w' => e = .returned .nilIface ∧ Wrote b (acc ++ [c]) row w6 w') ?_ ?_
    ·rw [show (#[Operand.tmp 3,Operand.tmp 9].map a6.eval) = #[a6.eval (.tmp 3),a6.eval (.tmp 9)] by simp,hp3,hp9]
     exact wb_any c hbl (by omega)
    rintro e w8 ⟨rfl,hm8⟩
    refine ⟨_,rfl,?_⟩
    obtain ⟨hf8,ht8⟩ := hwr w8 _ hm8
    rw [o4_1.2.2]
    have hi8 := (hf8.inv hi6).put (d := 10) (x := .undef) (v := .nilIface) (.undef _) (fun _ e => by cases e)
    show Code.wp Tryd.prog p41_5 _ _ w8
    refine V_wp hS k41_5 rfl hi8 (hll _) (v41_5 (fun i => ([.ptr r 0,x4 1,x4 2,.ptr H0.length 0,.d (.int .u8 c.toNat),x4 5,x4 6,x4 7,x4 8,.d (.int .u8 c.toNat),x4 10,x4 11,x4 12,x4 13,x4 14,x4 15,x4 16,x4 17,x4 18,x4 19,x4 20,x4 21,x4 22,x4 23,x4 24,x4 25,x4 26,x4 27,x4 28,x4 29,x4 30,x4 31,x4 32,x4 33,x4 34,x4 35,x4 36,x4 37,x4 38,x4 39,x4 40,x4 41,x4 42,x4 43,x4 44,x4 45,x4 46,x4 47,x4 48,x4 49,boolD false,x4 51,x4 52,x4 53,x4 54,x4 55,x4 56,x4 57,x4 58,x4 59,x4 60,x4 61,x4 62].set 10 AV.undef).getD i .undef) gr hl (by omega)) ?_ (fun _ h => h.elim)
    rintro e st9 g9 a9 w9 ⟨rfl,x9,rfl⟩ hw9 hi9 hx9
    have ht9 := ht8.step hw9
    rw [kk_set hr] at hi9
    show LoopAt Tryd.prog roundC _ _ _
    exact ih (s.length - (q + 1)) (by omega) (x := x9) rfl (by omega) (by simp; omega) (by omega) hts ht9 hi9
end
end Go.Proofs.YtmhmjlfajlpabaaDoor
set_option maxHeartbeats 2000000
set_option linter.unusedVariables false
namespace Go.Proofs.YtmhmjlfajlpabaaDoor
open Go Go.Abs Go.Proofs Go.RowKit Go.Lib
theorem fn41 : FnOK Tryd.prog 41 := ⟨_,Tryd.func41,by kernel_rfl,by kernel_rfl⟩
theorem body41 : Tryd.f41.body = some b41 := by kernel_rfl
theorem nt41 : Tryd.f41.ntmps = 63 := by kernel_rfl
theorem Bld.new (w : World) : Bld w.heap.size [] none (w.alloc (.cells #[.pointer none,.slice none 0 0] 78)) :=
 ⟨.pointer none,.slice none 0 0,.inl rfl,⟨heap_alloc_new _ _,⟨rfl,.inl ⟨rfl,rfl⟩⟩,by simp [Value.ownBlock],fun _ => rfl⟩,rfl⟩
theorem text_calls (hS : EnvS Tryd.prog pf (envN code prims1) (envP code pf prims1 (fun _ => none))) {g0 : Gh} {w0 : World} {H0 : AHeap} {lim r : Nat} {s : Tx} {p : Nat} (h0 : HeapOK g0 H0 w0) (hn : ∀ b,g0.own b ≠ .res) (gr : H0[r]? = some (rdO s p)) (hl : lim ≤ r) (hlim : lim ≤ H0.length) (hs : s.length ≤ 16384) (hp : p ≤ s.length)
  {vals : Array Value} (hv0 : 1 = vals.size) (hv : ∀ (i : Nat) x v,[AV.ptr r 0][i]? = some x → vals[i]? = some v → VR g0 w0 x v ∧ FOK g0 w0 (.slot i) x v) :
  Calls Tryd.prog 41 vals w0 (TRes g0 w0 H0 lim r s p) := by
 have hr := (List.getElem?_eq_some_iff.1 gr).1
 refine calls_of_wp Tryd.func41 body41 ?_
 rw [nt41,b41_eq]
 have hi0 : Inv g0 ⟨_,H0⟩ { tmps := vals ++ Array.replicate (63 - vals.size) undef,defers := [] } w0 := inv_start (args := [.ptr r 0]) h0 hn hv0 hv 63
 refine wp_seq (V_wp hS k41_0 rfl hi0 hlim (v41_0 (fun _ => .tuple [])) ?_ (fun _ h => h.elim))
 rintro e st1 g1 a1 w1 ⟨rfl,x1,rfl⟩ hw1 hi1 hx1
 show Code.wp Tryd.prog (.seq p41_1 _) _ a1 w1
 refine wp_seq (V_wp hS k41_1 rfl hi1 hlim (v41_1 x1 gr hl hs hp) ?_ ?_)
 rotate_left
 ·rintro _ ⟨hw,rfl⟩
  intro g' H' v a' w' k0 k1 kx k2 k3
  exact pan_end hw1 (Ext.refl _ _) (er := (11,p)) (by unfold textS; rw [hw]) g' H' v a' w' k0 k1 kx k2 k3
 rintro e st2 g2 a2 w2 ⟨rfl,hw,x2,rfl⟩ hw2 hi2 hx2
 have hpl := (want_lt hw).2
 have hts : textS s p = charsS s (s.length + 1) [] (p + 1) := by unfold textS; rw [hw]
 show Code.wp Tryd.prog (.seq p41_2 _) _ a2 w2
 refine wp_seq (r2_wp ?_)
 show Code.wp Tryd.prog (.block 0 (.loop roundC)) _ _ _
 have hlen : (H0.set r (rdO s (p + 1))).length = H0.length := List.length_set
 have hnn : g2.n = H0.length := by rw [hi2.heap.n,hlen]
 have hnew := hi2.heap.new w2.heap.size (Nat.le_refl _)
 have hf : Frn g2 w2 (w2.alloc (.cells #[.pointer none,.slice none 0 0] 78)) := ⟨rfl,rfl,rfl,by simp,fun k hk _ => heap_alloc _ _ _ hk⟩
 have hi3 := hf.inv hi2
 have hw3 := hf.wf h0 (hw1.trans hw2) fun k hk => heap_alloc _ _ _ (Nat.lt_of_lt_of_le hk (hw1.trans hw2).size)
 have hwd := wf_dead2 g2 (w2.alloc (.cells #[.pointer none,.slice none 0 0] 78)) w2.heap.size
 have hi4 : Inv (g2.dead2 w2.heap.size) ⟨TS r H0.length (fun i => if i = 3 then .tuple [] else x2 i),H0.set r (rdO s (p + 1)) ++ [.dead]⟩ (a2.put (some 3) (.pointer (some ⟨w2.heap.size,0,none⟩))) (w2.alloc (.cells #[.pointer none,.slice none 0 0] 78)) := by
  have hrho : (g2.dead2 w2.heap.size).rho H0.length = w2.heap.size := by simp [Gh.dead2,hnn]
  have hlt : H0.length < (g2.dead2 w2.heap.size).n := by show H0.length < g2.n + 1; omega
  have hvp : VR (g2.dead2 w2.heap.size) (w2.alloc (.cells #[.pointer none,.slice none 0 0] 78)) (.ptr H0.length 0) (.pointer (some ⟨w2.heap.size,0,none⟩)) := by
   have := VR.ptr (g := g2.dead2 w2.heap.size) (w := w2.alloc (.cells #[.pointer none,.slice none 0 0] 78)) H0.length 0 hlt
   rwa [hrho] at this
  have hid : Inv (g2.dead2 w2.heap.size) ⟨[.ptr r 0,x2 1,x2 2,x2 3,x2 4,x2 5,x2 6,x2 7,x2 8,x2 9,x2 10,x2 11,x2 12,x2 13,x2 14,x2 15,x2 16,x2 17,x2 18,x2 19,x2 20,x2 21,x2 22,x2 23,x2 24,x2 25,x2 26,x2 27,x2 28,x2 29,x2 30,x2 31,x2 32,x2 33,x2 34,x2 35,x2 36,x2 37,x2 38,x2 39,x2 40,x2 41,x2 42,x2 43,x2 44,x2 45,x2 46,x2 47,x2 48,x2 49,x2 50,x2 51,x2 52,x2 53,x2 54,x2 55,x2 56,x2 57,x2 58,x2 59,x2 60,x2 61,x2 62],H0.set r (rdO s (p + 1)) ++ [.dead]⟩ a2 (w2.alloc (.cells #[.pointer none,.slice none 0 0] 78)) :=
   ⟨heap_dead2 hi3.heap _,hi3.size,fun i y v hy hv => ⟨hwd.vr (hi3.tok i y v hy hv).1,(hi3.tok i y v hy hv).2.keep fun b hb => ⟨hb,rfl,fun cs e fr hh hz => ⟨cs,fr,hh,rfl,hz⟩⟩⟩,hi3.nores,hi3.defers⟩
  exact hid.put (d := 3) hvp (fun _ e => by cases e)
 have hti : TI g0 w0 H0.length w2.heap.size [] (g2.dead2 w2.heap.size) (w2.alloc (.cells #[.pointer none,.slice none 0 0] 78)) :=
  ⟨hw3.trans hwd,by show H0.length < g2.n + 1; omega,by simp [Gh.dead2,hnn],⟨(hw1.trans hw2).size,hnew.1,hnew.2⟩,none,Bld.new w2,fun k hk => by cases hk⟩
 exact wp_block (loopAt_wp (text_loop hS h0 hr hl hlim hs (s.length - (p + 1)) (x := fun i => if i = 3 then .tuple [] else x2 i) rfl hpl (by simp) (by omega) hts hti hi4))
end Go.Proofs.YtmhmjlfajlpabaaDoor
set_option maxHeartbeats 1000000
namespace Go.Proofs.YtmhmjlfajlpabaaDoor
open Go Go.Abs Go.Proofs Go.RowKit Go.Lib
theorem textF_inv {lim : Nat} {args : List AV} {H H' : AHeap} {v : AV} (h : textF lim args H = some (v,H')) :
  ∃ r s p t q,args = [.ptr r 0] ∧ H[r]? = some (rdO s p) ∧ lim ≤ r ∧ p ≤ s.length ∧ s.length ≤ 16384 ∧ textS s p = .ok (t,q) ∧ v = .d (.str t) ∧ H' = H.set r (rdO s q) := by
 unfold textF at h
 split at h
 ·rename_i r
  split at h
  ·rename_i s p hg
   split at h
   ·rename_i hc
    split at h
    ·rename_i t q ht
     simp only [Option.some.injEq,Prod.mk.injEq] at h
     obtain ⟨rfl,rfl⟩ := h
     obtain ⟨n,rfl⟩ : ∃ n : Nat,p = (n : Int) := ⟨p.toNat,by omega⟩
     exact ⟨r,s,n,t,q,rfl,hg,hc.1,by omega,hc.2.2.2,ht,rfl,rfl⟩
    ·cases h
   ·cases h
  ·cases h
 ·cases h
theorem textPF_inv {lim : Nat} {args : List AV} {H : AHeap} {v : PV} (h : textPF lim args H = some v) :
  ∃ r s p er,args = [.ptr r 0] ∧ H[r]? = some (rdO s p) ∧ lim ≤ r ∧ p ≤ s.length ∧ s.length ≤ 16384 ∧ textS s p = .error er ∧ v = stopP er.1 er.2 := by
 unfold textPF at h
 split at h
 ·rename_i r
  split at h
  ·rename_i s p hg
   split at h
   ·rename_i hc
    split at h
    ·cases h
    ·rename_i e q ht
     simp only [Option.some.injEq] at h
     subst h
     obtain ⟨n,rfl⟩ : ∃ n : Nat,p = (n : Int) := ⟨p.toNat,by omega⟩
     exact ⟨r,s,n,(e,q),rfl,hg,hc.1,by omega,hc.2.2.2,ht,rfl⟩
   ·cases h
  ·cases h
 ·cases h
theorem text_sound (hS : EnvS Tryd.prog pf X1 XP1) : FSound Tryd.prog 41 textF := by
 intro lim args H a H' h hlim
 obtain ⟨r,s,p,t,q,rfl,gr,hl,hp,hs,ht,rfl,rfl⟩ := textF_inv h
 refine ⟨Ext.set _ hl,fun vals g w hH hn hv0 hv => .inl ⟨fn41,(text_calls hS hH hn gr hl hlim hs hp hv0 hv).mono ?_⟩⟩
 rintro e w' (⟨t',q',v,g',h1,rfl,h2,h3,h4⟩ | ⟨er,v,g',H',h1,_⟩)
 ·rw [ht] at h1; cases h1
  exact ⟨v,g',rfl,h2,h3,h4,FOK.triv (Triv.d _ _)⟩
 ·rw [ht] at h1; cases h1
theorem text_psound (hS : EnvS Tryd.prog pf X1 XP1) : PSound Tryd.prog 41 textPF := by
 intro lim args H t x h hlim
 obtain ⟨r,s,p,er,rfl,gr,hl,hp,hs,ht,hv⟩ := textPF_inv h
 cases hv
 refine ⟨fn41,fun vals g w hH hn hv0 hv => (text_calls hS hH hn gr hl hlim hs hp hv0 (fun i x v h1 h2 => ⟨(hv i x v h1 h2).1,FOK.triv (hv i x v h1 h2).2⟩)).mono ?_⟩
 rintro e w' (⟨t',q',v,g',h1,_⟩ | ⟨er',v,g',H',h1,rfl,h2,h3,h4,h5⟩)
 ·rw [ht] at h1; cases h1
 ·rw [ht] at h1; cases h1
  exact ⟨v,g',H',rfl,h2,h3,h4,h5⟩
end Go.Proofs.YtmhmjlfajlpabaaDoor
namespace Go.Proofs.YtmhmjlfajlpabaaDoor
open Go Go.Proofs
def renS : Go.Shelf.Ren := ⟨fun f => (([(6,62),(15,76),(14,75),(28,90),(29,91),(20,82),(21,83),(22,84),(23,85),(24,86),(25,87),(26,88),(27,89),(46,96),(47,97),(48,98),(49,99),(50,100),(57,105)] : List (Nat × Nat)).lookup f).getD f,
 fun t => (([(22,63),(24,3),(25,86),(3,3),(39,69),(0,0),(53,103),(55,98),(4,4),(46,106),(45,105),(50,110),(5,5),(9,9),(66,119),(70,123),(76,129),(77,51)] : List (Nat × Nat)).lookup t).getD t,fun g => g⟩
theorem laysSort : SlLaysF.n6 Tryd.prog renS := by
 constructor
 case f6 => first | exact ⟨Tryd.f62.name,by decide,by kernel_rfl⟩ | kernel_rfl
 case f15 => first | exact ⟨Tryd.f76.name,by decide,by kernel_rfl⟩ | kernel_rfl
 case f14 => first | exact ⟨Tryd.f75.name,by decide,by kernel_rfl⟩ | kernel_rfl
 case f28 => first | exact ⟨Tryd.f90.name,by decide,by kernel_rfl⟩ | kernel_rfl
 case f29 => first | exact ⟨Tryd.f91.name,by decide,by kernel_rfl⟩ | kernel_rfl
 case f20 => first | exact ⟨Tryd.f82.name,by decide,by kernel_rfl⟩ | kernel_rfl
 case f21 => first | exact ⟨Tryd.f83.name,by decide,by kernel_rfl⟩ | kernel_rfl
 case f22 => first | exact ⟨Tryd.f84.name,by decide,by kernel_rfl⟩ | kernel_rfl
 case f23 => first | exact ⟨Tryd.f85.name,by decide,by kernel_rfl⟩ | kernel_rfl
 case f24 => first | exact ⟨Tryd.f86.name,by decide,by kernel_rfl⟩ | kernel_rfl
 case f25 => first | exact ⟨Tryd.f87.name,by decide,by kernel_rfl⟩ | kernel_rfl
 case f26 => first | exact ⟨Tryd.f88.name,by decide,by kernel_rfl⟩ | kernel_rfl
 case f27 => first | exact ⟨Tryd.f89.name,by decide,by kernel_rfl⟩ | kernel_rfl
 case f46 => first | exact ⟨Tryd.f96.name,by decide,by kernel_rfl⟩ | kernel_rfl
 case f47 => first | exact ⟨Tryd.f97.name,by decide,by kernel_rfl⟩ | kernel_rfl
 case f48 => first | exact ⟨Tryd.f98.name,by decide,by kernel_rfl⟩ | kernel_rfl
 case f49 => first | exact ⟨Tryd.f99.name,by decide,by kernel_rfl⟩ | kernel_rfl
 case f50 => first | exact ⟨Tryd.f100.name,by decide,by kernel_rfl⟩ | kernel_rfl
 case f57 => first | exact ⟨Tryd.f105.name,by decide,by kernel_rfl⟩ | kernel_rfl
 all_goals first | kernel_rfl | exact fun w => by kernel_rfl
end Go.Proofs.YtmhmjlfajlpabaaDoor
set_option maxHeartbeats 1000000
namespace Go.Proofs.YtmhmjlfajlpabaaDoor
open Go Go.Proofs Go.RowKit
def cmpB (ki kj : ByteArray) : Int := if Op.bytesLess ki.toList kj.toList then -1 else if ki.toList == kj.toList then 0 else 1
theorem gtr_run (a b : ByteArray) (w : World) : (binOp .gtr 9 (.string a) (.string b)).run Tryd.prog w = .ok (.bool (!Op.bytesLess a.toList b.toList && !a.toList == b.toList)) w := by
 have u9 : Tryd.prog.underlying 9 = some .string := by kernel_rfl
 simp [binOp,run_underlying u9,Op.stringOp]
theorem cmp63 (W : World) (kb sb so n cap i j : Nat) (ki kj : ByteArray) (hk : W.cell? ⟨kb,0,none⟩ = some (.slice (some ⟨sb,so,none⟩) n cap)) (hi : i < n) (hj : j < n)
  (ci : W.cell? ⟨sb,so + i,none⟩ = some (.string ki)) (cj : W.cell? ⟨sb,so + j,none⟩ = some (.string kj)) :
  Calls Tryd.prog 63 #[.int .i64 i,.int .i64 j,.pointer (some ⟨kb,0,none⟩)] W fun e w' => e = .returned (.int .i64 (cmpB ki kj)) ∧ ∃ q,w' = W.drewN q := by
 unfold cmpB
 cases h1 : Op.bytesLess ki.toList kj.toList with
 | true =>
  go_enter Tryd.func63,Tryd.ntmps63
  go_wp2
  go_quiet (fail)
  go_wp2
  go_ret
  exact ⟨rfl,_,rfl⟩
 | false =>
  have hg := gtr_run ki kj
  simp only [h1] at hg
  cases h2 : ki.toList == kj.toList with
  | true =>
   go_enter Tryd.func63,Tryd.ntmps63
   go_wp2
   go_quiet (fail)
   go_wp2
   go_quiet (fail)
   go_wp2
   go_ret
   exact ⟨rfl,_,rfl⟩
  | false =>
   go_enter Tryd.func63,Tryd.ntmps63
   go_wp2
   go_quiet (fail)
   go_wp2
   go_quiet (fail)
   go_wp2
   go_ret
   exact ⟨rfl,_,rfl⟩
end Go.Proofs.YtmhmjlfajlpabaaDoor
set_option maxHeartbeats 1000000
namespace Go.Proofs.YtmhmjlfajlpabaaDoor
open Go Go.Abs Go.Proofs Go.RowKit Go.Lib
theorem strsOf_eq : ∀ {xs : List D} {ks : List Tx},strsOf xs = some ks → xs = ks.map D.str
 | [],_,h => by cases h; rfl
 | .str s :: l,ks,h => by
  simp only [strsOf,Option.map_eq_some_iff] at h
  obtain ⟨r,h1,rfl⟩ := h
  rw [strsOf_eq h1]; rfl
 | .int _ _ :: _,_,h => by simp [strsOf] at h
 | .bool _ :: _,_,h => by simp [strsOf] at h
 | .agg _ :: _,_,h => by simp [strsOf] at h
 | .slice _ :: _,_,h => by simp [strsOf] at h
 | .nilptr :: _,_,h => by simp [strsOf] at h
theorem sortF_inv {lim : Nat} {args : List AV} {H H' : AHeap} {a : AV} (h : sortF lim args H = some (a,H')) :
  ∃ r k c ks,args = [.oslice r 0 ks.length c 1,.func (.func 63) [.ptr k 0]] ∧ H[r]? = some (.cells ((List.range ks.length).map fun (i : Nat) => intD (i : Int))) ∧ H[k]? = some (.cells [.d (.slice (ks.map D.str))]) ∧ lim ≤ r ∧ r ≠ k ∧ ks.length < 1000000000000 ∧ ks.Nodup ∧ a = .tuple [] ∧
   H' = H.set r (.cells ((byKeys ks).map fun (i : Nat) => intD (i : Int))) := by
 unfold sortF at h
 split at h
 ·rename_i r n c k
  split at h
  ·rename_i cs xs h1 h2
   split at h
   ·rename_i ks h3
    split at h
    ·rename_i hc
     obtain ⟨c1,c2,c3,c4,c5,c6,c7⟩ := hc
     simp only [Option.some.injEq,Prod.mk.injEq] at h
     obtain ⟨rfl,rfl⟩ := h
     subst c3
     have e := AV.beqs_eq c7
     subst e
     rw [strsOf_eq h3] at h2
     exact ⟨r,k,c,ks,rfl,h1,h2,c1,c2,c4,c5,rfl,rfl⟩
    ·cases h
   ·cases h
  ·cases h
 ·cases h
def bytesV : Value → ByteArray
 | .string s => s
 | _ => default
theorem strs_cells {bd : Nat → Nat} {w : World} {ks : List Tx} {v : Value} (h : DR bd w (.slice (ks.map D.str)) v) (hne : ks ≠ []) :
  ∃ b off cap,∃ B : Nat → ByteArray,v = .slice (some ⟨b,off,none⟩) ks.length cap ∧ ∀ i,i < ks.length → off + i < bd b ∧ w.cell? ⟨b,off + i,none⟩ = some (.string (B i)) ∧ (B i).data.toList = ks.getD i [] := by
 generalize e : (D.slice (ks.map D.str)) = x at h
 cases h with
 | slice xs b off len cap sz vs hlen hcap hu hf hc hd =>
  injection e with e
  subst e
  simp only [List.length_map] at hlen hc
  have hsz : sz = 1 := by
   obtain ⟨k,l,rfl⟩ := List.exists_cons_of_ne_nil hne
   have := hu (.str k) (by simp)
   exact this.symm
  subst hsz
  refine ⟨b,off,cap,fun i => bytesV (vs i),by rw [hlen],fun i hi => ?_⟩
  obtain ⟨q1,q2⟩ := hc i (by omega)
  have q3 := hd i 0 (.str ks[i]) (.str ks[i]) (by rw [List.getElem?_map,List.getElem?_eq_getElem hi]; rfl) rfl
  simp only [Nat.mul_one,Nat.add_zero] at q3
  refine ⟨q1,?_,?_⟩ <;> simp only
  ·generalize vs i = u at q3 q2
   cases q3 with
   | str _ s hs => exact q2
  ·generalize vs i = u at q3 q2
   cases q3 with
   | str _ s hs => rw [show bytesV (.string s) = s from rfl,hs]; simp only [List.getD,List.getElem?_eq_getElem hi,Option.getD_some]
 | slnil => injection e with e; simp at e; exact absurd e hne
 | sle a cap => injection e with e; simp at e; exact absurd e hne
 | _ => cases e
theorem fin_vals (n : Nat) : (List.finRange n).map Fin.val = List.range n := by
 apply List.ext_getElem <;> simp
theorem fn62 : FnOK Tryd.prog 62 := ⟨_,Tryd.func62,by kernel_rfl,by kernel_rfl⟩
theorem cmpB_lt (a b : ByteArray) : decide (cmpB a b < 0) = decide (a.data.toList < b.data.toList) := by
 unfold cmpB
 rw [bless,toList_data,toList_data]
 by_cases h : a.data.toList < b.data.toList
 ·simp [h]
 ·simp only [h,decide_false,Bool.false_eq_true,if_false]
  split <;> simp
theorem sort_calls {g : Gh} {w : World} {H : AHeap} (hH : HeapOK g H w) {r k c : Nat} {ks : List Tx}
  (gr : H[r]? = some (.cells ((List.range ks.length).map fun (i : Nat) => intD (i : Int)))) (gk : H[k]? = some (.cells [.d (.slice (ks.map D.str))])) (hrk : r ≠ k) (hn : ks.length < 1000000000000) (hd : ks.Nodup) {vals : Array Value} (hv0 : 2 = vals.size)
  (hv : ∀ (i : Nat) x v,[AV.oslice r 0 ks.length c 1,.func (.func 63) [.ptr k 0]][i]? = some x → vals[i]? = some v → VR g w x v ∧ FOK g w (.slot i) x v) :
  Calls Tryd.prog 62 vals w fun e w' => ∃ v g',e = .returned v ∧ WF g w g' w' ∧ HeapOK g' (H.set r (.cells ((byKeys ks).map fun (i : Nat) => intD (i : Int)))) w' ∧ VR g' w' (.tuple []) v ∧ FOK g' w' .res (.tuple []) v := by
 obtain ⟨v0,v1,rfl⟩ : ∃ v0 v1,vals = #[v0,v1] := ⟨vals[0],vals[1],by
  apply Array.ext
  ·simpa using hv0.symm
  ·intro i h1 h2
   simp at h2
   rcases (by omega : i = 0 ∨ i = 1) with rfl | rfl <;> rfl⟩
 have hv1 := (hv 0 _ v0 rfl rfl).1
 have hv2 := (hv 1 _ v1 rfl rfl).1
 obtain ⟨hrn,vs,e,fr,h1,⟨h2a,h2b⟩,h3,h4,h5⟩ := hH.get gr
 obtain ⟨hkn,us,e',fr',k1,⟨k2a,k2b⟩,k3,k4,k5⟩ := hH.get gk
 have har := alive gr (by simp)
 have hak := alive gk (by simp)
 have hb : g.rho r < w.heap.size := hH.rho_lt hrn har
 simp only [List.length_map,List.length_range] at h2a
 cases hv1 with
 | osl _ _ _ _ cap' _ q1 q2 q3 q4 =>
 cases hv2 with
 | func _ _ vs2 p1 p2 p3 =>
 obtain ⟨u0,rfl⟩ : ∃ u0,vs2 = #[u0] := ⟨vs2[0]'(by simp at p1; omega),by
  apply Array.ext
  ·simp at p1 ⊢; omega
  ·intro i a b
   simp at b; subst b; rfl⟩
 have hp := p2 0 _ u0 rfl rfl
 cases hp with
 | ptr _ _ hlt =>
 by_cases hne : ks = []
 ·subst hne
  have := AnyF.slices_SortFunc_none (P := Tryd.prog) (ρ := renS) { laysSort with } (some ⟨g.rho r,0,none⟩) cap' (.func (.func 63) #[] #[.pointer (some ⟨g.rho k,0,none⟩)]) w
  refine Calls.mono this ?_
  rintro _ _ ⟨rfl,rfl⟩
  refine ⟨_,g,rfl,.refl _ _,?_,.tuple [] #[] rfl (fun i c v h => by simp at h) (fun i c v h => by simp at h),FOK.ne (by simp)⟩
  have e1 : H.set r (.cells ((byKeys []).map fun (i : Nat) => intD (i : Int))) = H := by
   apply List.ext_getElem?
   intro i
   rw [List.getElem?_set]
   split
   ·rename_i hi; subst hi
    rw [gr]
    simp [(List.getElem?_eq_some_iff.1 gr).1,byKeys,sortK]
   ·rfl
  rw [e1]; exact hH
 ·obtain ⟨m,hm⟩ : ∃ m,ks.length = m + 1 := ⟨ks.length - 1,by have := List.length_pos_iff.2 hne; omega⟩
  have u0v : ∃ u,us[0]? = some u ∧ DR g.bd w (.slice (ks.map D.str)) u := by
   have : 0 < us.size := by simp at k2a; omega
   refine ⟨us[0],Array.getElem?_eq_getElem this,?_⟩
   have := (k5 0 _ us[0] rfl (Array.getElem?_eq_getElem this)).1
   cases this with
   | d _ _ h => exact h
  obtain ⟨u,hu0,hu⟩ := u0v
  obtain ⟨sb,so,scap,B,rfl,hB⟩ := strs_cells hu hne
  have hsb : sb ≠ g.rho r := fun e => by
   have := (hB 0 (by omega)).1
   rw [e,(hH.own r hrn har).2] at this
   omega
  have hkb : g.rho k ≠ g.rho r := fun e => hrk (hH.rho_inj hrn hkn har hak e.symm)
  have hsbl : sb < w.heap.size := hH.bd_lt (hB 0 (by omega)).1
  have hkbl : g.rho k < w.heap.size := hH.rho_lt hkn hak
  have hinj : ∀ i j : Fin (m + 1),(B i).data.toList = (B j).data.toList → i = j := fun i j h => by
   have hi : i.1 < ks.length := by omega
   have hj : j.1 < ks.length := by omega
   rw [(hB i.1 hi).2.2,(hB j.1 hj).2.2] at h
   exact Fin.ext (keyAt_inj hd hi hj h)
  let enc : Fin (m + 1) → Value := fun i => .int .i64 (i.1 : Nat)
  let cf : Fin (m + 1) → Fin (m + 1) → Int := fun i j => cmpB (B i) (B j)
  have hlt : ∀ i j,ltOf cf i j = decide ((B i).data.toList < (B j).data.toList) := fun i j => cmpB_lt _ _
  have swo : Go.Sort.SWO (ltOf cf) := by
   refine ⟨fun x => ?_,fun x y z h1 h2 => ?_,fun x y z h1 h2 => ?_⟩
   ·rw [hlt]; simp [List.lt_irrefl]
   ·rw [hlt] at *; simp only [decide_eq_true_eq] at *; exact List.lt_trans h1 h2
   ·rw [hlt] at *
    simp only [decide_eq_false_iff_not,List.not_lt] at *
    exact List.le_trans h2 h1
  have tot : ∀ x y,ltOf cf x y = false → ltOf cf y x = false → x = y := fun x y h1 h2 => by
   rw [hlt] at h1 h2
   simp only [decide_eq_false_iff_not,List.not_lt] at h1 h2
   exact hinj x y (List.le_antisymm h2 h1)
  have eg : ∀ args w,(callFunc 63 args).run Tryd.prog w = .ok (.enter 63 args) w := enters_of Tryd.func63 (by kernel_rfl) rfl
  let d : Array (Fin (m + 1)) := (List.finRange (m + 1)).toArray
  have hds : d.size = m + 1 := by simp [d]
  have hdj : ∀ (j : Nat) (hj : j < m + 1),d[j]! = ⟨j,hj⟩ := fun j hj => by
   rw [getElem!_pos d j (by omega)]
   simp [d]
  have hHd : Go.Sort.Holds enc w (g.rho r) 0 d := fun j hj => by
   rw [hds] at hj
   have hjs : j < vs.size := by omega
   refine ⟨?_,?_⟩
   ·rw [Nat.zero_add,cell_of_block h1,Array.getElem?_eq_getElem hjs]
    have := (h5 j (intD (j : Nat)) vs[j] (by simp [List.getElem?_map,List.getElem?_range,hm,hj]) (Array.getElem?_eq_getElem hjs)).1
    rw [hdj j hj]
    generalize vs[j] = vj at this
    cases this with
    | d _ _ h => cases h; rfl
   ·rw [Nat.zero_add]; exact frozen_of_block h1 h3 hjs
  have reads : CmpReads Tryd.prog 63 #[.pointer (some ⟨g.rho k,0,none⟩)] enc cf (g.rho r) 0 (m + 1) w := by
   intro q os dk hs x y
   have hx : x.1 < ks.length := by omega
   have hy : y.1 < ks.length := by omega
   have hcell : ∀ (b o : Nat),b ≠ g.rho r → b < w.heap.size → (sortWorld enc w (g.rho r) 0 q dk os).cell? ⟨b,o,none⟩ = w.cell? ⟨b,o,none⟩ := fun b o h1 h2 => by
    unfold sortWorld
    rw [Go.Sort.cell?_grow _ _ _ (by simpa using h2),Go.Sort.cell?_putRow_other _ _ _ _ _ _ (.inl h1),Go.Sort.cell?_ahead]
   exact cmp63 _ (g.rho k) sb so ks.length scap x.1 y.1 (B x) (B y) (by rw [hcell _ _ hkb hkbl,cell_of_block k1]; exact hu0) hx hy (by rw [hcell _ _ hsb hsbl]; exact (hB x.1 hx).2.1) (by rw [hcell _ _ hsb hsbl]; exact (hB y.1 hy).2.1)
  have hS := Any.slices_SortFunc_total laysSort enc (fun _ => rfl) cf swo 63 #[.pointer (some ⟨g.rho k,0,none⟩)] (g.rho r) 0 cap' d w eg (by rw [hds]; exact reads.lays) hHd hb (by rw [hds]; omega) tot
  rw [show d.size = ks.length by rw [hds,hm]] at hS
  refine Calls.mono hS ?_
  rintro _ _ ⟨rfl,q,os,rfl⟩
  have hrow : ((List.finRange (m + 1)).mergeSort fun x y => !ltOf cf y x).map Fin.val = byKeys ks := by
   rw [← byKeys_merge hd,List.map_mergeSort (s := fun i j => !tless (ks.getD j []) (ks.getD i [])),fin_vals,hm]
   intro i _ j _
   rw [hlt,tless,bless,(hB i.1 (by omega)).2.2,(hB j.1 (by omega)).2.2]
  have hys : (d.toList.mergeSort fun x y => !ltOf cf y x) = ((List.finRange (m + 1)).mergeSort fun x y => !ltOf cf y x) := rfl
  rw [hys]
  generalize hgy : ((List.finRange (m + 1)).mergeSort fun x y => !ltOf cf y x) = ys at hrow
  have hyl : ys.length = m + 1 := by rw [← hgy,List.length_mergeSort]; simp
  rw [show sortWorld enc w (g.rho r) 0 q ys.toArray os = Go.Sort.grow ((w.drewN q).setCells (g.rho r) 0 (ys.map enc)) os from sorted_world enc w (g.rho r) 0 q d ys os hHd (by rw [hyl,hds])]
  have f1 : Frn g w (w.drewN q) := ⟨rfl,rfl,rfl,Nat.le_refl _,fun _ _ _ => rfl⟩
  have hH1 := f1.heap hH
  have hw1 : WF g w g (w.drewN q) := f1.wf hH (.refl _ _) fun _ _ => rfl
  obtain ⟨ht,hor,_⟩ := or_setCells (P := Tryd.prog) hH1 (r := r) (us := ys.map enc) (ds := (byKeys ks).map fun (i : Nat) => intD (i : Int)) (off := 0) gr (by simp [hyl,hm]) (by rw [← hrow]; simp) (fun c hc => by
    obtain ⟨i,_,rfl⟩ := List.mem_map.1 hc; rfl) (fun i c v hc hv => by
    rw [← hrow] at hc
    simp only [List.getElem?_map,Option.map_map,Option.map_eq_some_iff] at hc hv
    obtain ⟨a,ha,rfl⟩ := hc
    obtain ⟨b,hb,rfl⟩ := hv
    rw [ha] at hb; cases hb
    exact ⟨.d _ _ (.int _ _),FOK.triv (Triv.d _ _)⟩)
  have hspl : splice ((List.range ks.length).map fun (i : Nat) => intD (i : Int)) 0 ((byKeys ks).map fun (i : Nat) => intD (i : Int)) = (byKeys ks).map fun (i : Nat) => intD (i : Int) := by
   unfold splice
   rw [List.take_zero,List.nil_append,List.drop_eq_nil_of_le (by rw [← hrow]; simp [hyl,hm]),List.append_nil]
  rw [hspl] at hor
  have hH2 := heap_turned hH1 hrn har ht hor
  have hw2 := wf_turned hH1 hrn har ht
  have f3 : Frn g ((w.drewN q).setCells (g.rho r) 0 (ys.map enc)) (Go.Sort.grow ((w.drewN q).setCells (g.rho r) 0 (ys.map enc)) os) := ⟨rfl,rfl,rfl,by simp,fun k hk _ => Go.Sort.heap_grow_old _ _ hk⟩
  have hH3 := f3.heap hH2
  have hw3 := f3.wf hH2 (.refl _ _) fun k hk => Go.Sort.heap_grow_old _ _ hk
  exact ⟨_,g,rfl,(hw1.trans hw2).trans hw3,hH3,.tuple [] #[] rfl (fun i c v h => by simp at h) (fun i c v h => by simp at h),FOK.ne (by simp)⟩
theorem sort_sound : FSound Tryd.prog 62 sortF := by
 intro lim args H a H' h hlim
 obtain ⟨r,k,c,ks,rfl,gr,gk,hl,hrk,hn,hd,rfl,rfl⟩ := sortF_inv h
 exact ⟨Ext.set _ hl,fun vals g w hH hn' hv0 hv => .inl ⟨fn62,sort_calls hH gr gk hrk hn hd hv0 hv⟩⟩
end Go.Proofs.YtmhmjlfajlpabaaDoor
set_option maxHeartbeats 1000000
namespace Go.Proofs.YtmhmjlfajlpabaaDoor
open Go Go.Abs Go.Proofs Go.RowKit
theorem num_sound {P : Program} {f : FuncId} (hf : FnOK P f) {k : IntKind} {ok : Int → Prop} [DecidablePred ok] {out : Int → D} {res : Int → Value}
  (hr : ∀ (bd : Nat → Nat) (w : World) n,ok n → DR bd w (out n) (res n))
  (h : ∀ (w : World) (n : Int),ok n → Calls P f #[.int k n] w fun e w' => e = .returned (res n) ∧ w' = w) :
  FSound P f fun _ args H => match args with
   | [.d (.int k' n)] => if k' = k ∧ ok n then some (.d (out n),H) else none
   | _ => none := by
 intro lim args H a H' hF hlim
 simp only at hF
 split at hF
 ·rename_i k' n
  split at hF
  ·rename_i hok
   obtain ⟨rfl,hok⟩ := hok
   simp only [Option.some.injEq,Prod.mk.injEq] at hF
   obtain ⟨rfl,rfl⟩ := hF
   refine ⟨Ext.refl _ _,fun vals g w hH hn hl hv => .inl ⟨hf,?_⟩⟩
   obtain ⟨vl⟩ := vals
   match vl,hl with
   | [u],_ =>
    have h0 := (hv 0 _ u rfl (by simp)).1
    cases h0 with
    | d _ _ h0 => cases h0 with
     | int =>
      refine Calls.mono (h w n hok) ?_
      rintro e w' ⟨rfl,rfl⟩
      exact ⟨_,g,rfl,.refl _ _,hH,.d _ _ (hr _ _ n hok),fun xs e => by cases e⟩
  ·cases hF
 ·cases hF
def ren91 : Go.Shelf.Ren := ⟨fun f => (([(129,91)] : List (Nat × Nat)).lookup f).getD f,fun t => (([(53,98),(3,3),(4,4),(46,69),(5,5),(9,9)] : List (Nat × Nat)).lookup t).getD t,fun g => g⟩
theorem lays91 : Lays.n129 Tryd.prog ren91 := by
 constructor <;> first | kernel_rfl | exact fun w => by kernel_rfl
def ren92 : Go.Shelf.Ren := ⟨fun f => (([(283,92)] : List (Nat × Nat)).lookup f).getD f,fun t => (([(3,3),(9,9),(4,4)] : List (Nat × Nat)).lookup t).getD t,fun g => g⟩
theorem lays92 : Lays.n283 Tryd.prog ren92 := by
 constructor <;> first | kernel_rfl | exact fun w => by kernel_rfl
def ren94 : Go.Shelf.Ren := ⟨fun f => (([(285,94)] : List (Nat × Nat)).lookup f).getD f,fun t => (([(37,22),(53,98),(3,3),(4,4),(51,103),(9,9),(5,5),(0,0)] : List (Nat × Nat)).lookup t).getD t,fun g => g⟩
theorem lays94 : Lays.n285 Tryd.prog ren94 := by
 constructor <;> first | kernel_rfl | exact fun w => by kernel_rfl
theorem small_eq {n : Nat} (h : n < 100) : smallS n = Lib.decDigits n := by
 unfold smallS
 split
 ·rename_i h1; rw [Lib.decDigits_one h1]
 ·rename_i h1; rw [Lib.decDigits_two h1 h]
theorem fn91 : FnOK Tryd.prog 91 := ⟨_,Tryd.func91,by kernel_rfl,by kernel_rfl⟩
theorem fn92 : FnOK Tryd.prog 92 := ⟨_,Tryd.func92,by kernel_rfl,by kernel_rfl⟩
theorem fn94 : FnOK Tryd.prog 94 := ⟨_,Tryd.func94,by kernel_rfl,by kernel_rfl⟩
theorem small_sound : FSound Tryd.prog 92 smallF := by
 have := num_sound (k := .i64) fn92 (ok := fun i => 0 ≤ i ∧ i < 100) (out := fun i => .str (smallS i.toNat)) (res := fun i => .string ⟨(Lib.decDigits i.toNat).toArray⟩)
  (fun bd w n hn => .str _ _ (by rw [small_eq (by omega)])) fun w n hn => by
   obtain ⟨m,rfl⟩ : ∃ m : Nat,n = (m : Int) := ⟨n.toNat,by omega⟩
   exact Any.internal_strconv_small lays92 m (by omega) w
 refine this.less fun lim a H r hr => ?_
 unfold smallF at hr
 split at hr
 ·simp only [true_and]; exact hr
 ·cases hr
theorem len64_sound : FSound Tryd.prog 91 len64F := by
 have := num_sound (k := .u64) fn91 (ok := fun i => 0 ≤ i ∧ i < 18446744073709551616) (out := fun u => .int .i64 (Lib.bitLen u.toNat : Nat)) (res := fun u => .int .i64 (Lib.bitLen u.toNat : Nat))
  (fun bd w n hn => .int _ _) fun w n hn => Any.bits_Len64 lays91 n w hn.1 (by omega)
 refine this.less fun lim a H r hr => ?_
 unfold len64F at hr
 split at hr
 ·simp only [true_and]; exact hr
 ·cases hr
theorem fbF_inv {lim : Nat} {args : List AV} {H H' : AHeap} {a : AV} (h : fbF lim args H = some (a,H')) :
  ∃ r c u cs,args = [.oslice r 0 (Lib.nDigits u) c 1,.d (.int .u64 (u : Nat))] ∧ H[r]? = some (.cells cs) ∧ lim ≤ r ∧ u < 18446744073709551616 ∧ Lib.nDigits u ≤ 24 ∧ Lib.nDigits u ≤ cs.length ∧ cs.take (Lib.nDigits u) = List.replicate (Lib.nDigits u) (.d (.int .u8 0)) ∧ a = .tuple [] ∧
   H' = H.set r (.cells (splice cs 0 ((Lib.decDigits u).map fun b => AV.d (byteD b)))) := by
 unfold fbF at h
 split at h
 ·rename_i r n c u
  split at h
  ·rename_i cs h1
   split at h
   ·rename_i hc
    obtain ⟨c1,c2,c3,c4,c24,c5,c6⟩ := hc
    simp only [Option.some.injEq,Prod.mk.injEq] at h
    obtain ⟨rfl,rfl⟩ := h
    obtain ⟨m,rfl⟩ : ∃ m : Nat,u = (m : Int) := ⟨u.toNat,by omega⟩
    simp only [Int.toNat_natCast] at c4
    subst c4
    exact ⟨r,c,m,cs,rfl,h1,c1,by omega,c24,c5,AV.beqs_eq c6,rfl,rfl⟩
   ·cases h
  ·cases h
 ·cases h
abbrev encB (b : UInt8) : Value := .int .u8 (b.toNat : Int)
theorem fb_calls {g : Gh} {w : World} {H : AHeap} (hH : HeapOK g H w) {r c u : Nat} {cs : List AV} (gr : H[r]? = some (.cells cs)) (hu : u < 18446744073709551616) (hn24 : Lib.nDigits u ≤ 24) (hn : Lib.nDigits u ≤ cs.length)
  (hz : cs.take (Lib.nDigits u) = List.replicate (Lib.nDigits u) (.d (.int .u8 0))) {vals : Array Value} (hv0 : 2 = vals.size)
  (hv : ∀ (i : Nat) x v,[AV.oslice r 0 (Lib.nDigits u) c 1,.d (.int .u64 (u : Nat))][i]? = some x → vals[i]? = some v → VR g w x v ∧ FOK g w (.slot i) x v) :
  Calls Tryd.prog 94 vals w fun e w' => ∃ v g',e = .returned v ∧ WF g w g' w' ∧ HeapOK g' (H.set r (.cells (splice cs 0 ((Lib.decDigits u).map fun b => AV.d (byteD b))))) w' ∧ VR g' w' (.tuple []) v ∧ FOK g' w' .res (.tuple []) v := by
 obtain ⟨v0,v1,rfl⟩ : ∃ v0 v1,vals = #[v0,v1] := ⟨vals[0],vals[1],by
  apply Array.ext
  ·simpa using hv0.symm
  ·intro i h1 h2
   simp at h2
   rcases (by omega : i = 0 ∨ i = 1) with rfl | rfl <;> rfl⟩
 have hv1 := (hv 0 _ v0 rfl rfl).1
 have hv2 := (hv 1 _ v1 rfl rfl).1
 obtain ⟨hrn,vs,e,fr,h1,⟨h2a,h2b⟩,h3,h4,h5⟩ := hH.get gr
 have har := alive gr (by simp)
 generalize hN : Lib.nDigits u = N at *
 cases hv1 with
 | osl _ _ _ _ cap' _ q1 q2 q3 q4 =>
 cases hv2 with
 | d _ _ hv2 =>
 cases hv2 with
 | int =>
 let d : Array UInt8 := Array.replicate N 0
 have hds : d.size = N := by simp [d]
 have hHd : Go.Sort.Holds encB w (g.rho r) 0 d := fun j hj => by
  rw [hds] at hj
  have hjs : j < vs.size := by omega
  refine ⟨?_,?_⟩
  ·rw [Nat.zero_add,cell_of_block h1,Array.getElem?_eq_getElem hjs]
   have hcj : cs[j]? = some (.d (.int .u8 0)) := by
    have := congrArg (fun l => l[j]?) hz
    simp only [List.getElem?_take,if_pos hj,List.getElem?_replicate] at this
    exact this
   have := (h5 j _ vs[j] hcj (Array.getElem?_eq_getElem hjs)).1
   generalize vs[j] = vj at this
   cases this with
   | d _ _ h =>
    cases h
    rw [getElem!_pos d j (by omega)]
    simp [d,encB]
  ·rw [Nat.zero_add]; exact frozen_of_block h1 h3 hjs
 have hS := Any.internal_strconv_formatBase10 lays94 (g.rho r) 0 cap' u d w hHd (by rw [hds,← hN]; exact Lib.lt_pow_nDigits u) hu (by omega)
 rw [hds] at hS
 refine Calls.mono hS ?_
 rintro _ _ ⟨rfl,q,v',dk,rfl,hfi⟩
 have hfs : dk.size = N := hfi.size
 have hdk : dk = (Lib.decDigits u).toArray := by
  apply Array.ext
  ·rw [hfs,List.size_toArray,Lib.decDigits_length,hN]
  ·intro i a b
   rw [← hN] at hfi
   have := Lib.row_is_numeral hfi i (by simpa using b)
   rw [getElem!_pos dk i a] at this
   exact this.symm
 subst hdk
 rw [show (Go.Sort.putRow encB w (g.rho r) 0 (Lib.decDigits u).toArray).drewN q = (w.drewN q).setCells (g.rho r) 0 ((Lib.decDigits u).map encB) from Lib.putRow_eq_setCells encB w (g.rho r) 0 d (Lib.decDigits u) q hHd (by rw [hds,← hN,Lib.decDigits_length])]
 have f1 : Frn g w (w.drewN q) := ⟨rfl,rfl,rfl,Nat.le_refl _,fun _ _ _ => rfl⟩
 have hH1 := f1.heap hH
 have hw1 : WF g w g (w.drewN q) := f1.wf hH (.refl _ _) fun _ _ => rfl
 obtain ⟨ht,hor,_⟩ := or_setCells (P := Tryd.prog) hH1 (r := r) (us := (Lib.decDigits u).map encB) (ds := (Lib.decDigits u).map fun b => AV.d (byteD b)) (off := 0) gr (by rw [List.length_map,Lib.decDigits_length]; omega) (by simp) (fun c hc => by
   obtain ⟨i,_,rfl⟩ := List.mem_map.1 hc; rfl) (fun i c v hc hv => by
   simp only [List.getElem?_map,Option.map_eq_some_iff] at hc hv
   obtain ⟨a,ha,rfl⟩ := hc
   obtain ⟨b,hb,rfl⟩ := hv
   rw [ha] at hb; cases hb
   exact ⟨.d _ _ (.int _ _),FOK.triv (Triv.d _ _)⟩)
 have hH2 := heap_turned hH1 hrn har ht hor
 have hw2 := wf_turned hH1 hrn har ht
 exact ⟨_,g,rfl,hw1.trans hw2,hH2,.tuple [] #[] rfl (fun i c v h => by simp at h) (fun i c v h => by simp at h),FOK.ne (by simp)⟩
theorem fb_sound : FSound Tryd.prog 94 fbF := by
 intro lim args H a H' h hlim
 obtain ⟨r,c,u,cs,rfl,gr,hl,hu,hn24,hn,hz,rfl,rfl⟩ := fbF_inv h
 exact ⟨Ext.set _ hl,fun vals g w hH hn' hv0 hv => .inl ⟨fn94,fb_calls hH gr hu hn24 hn hz hv0 hv⟩⟩
end Go.Proofs.YtmhmjlfajlpabaaDoor
namespace Go.Proofs.YtmhmjlfajlpabaaDoor
open Go Go.Abs Go.Lib
def ren2 : Go.Shelf.Ren := ⟨fun f => if f = 196 then 67 else if f = 259 then 78 else f,fun t => if t = 119 then 89 else if t = 46 then 69 else if t = 139 then 92 else if t = 138 then 91 else if t = 53 then 98 else t,fun g => g - 3⟩
theorem laysValid : Go.Proofs.Lays.n196 Tryd.prog ren2 := by
 constructor <;> first | kernel_rfl | exact fun w => by kernel_rfl
theorem int_of {bd : Nat → Nat} {w : World} {k : IntKind} {n : Int} {v : Value} (h : DR bd w (.int k n) v) : v = .int k n := by cases h; rfl
theorem pref_cell {g : Gh} {w : World} {cs : List D} {b : Nat} (h : VR g w (.pref cs) (.pointer (some ⟨b,0,none⟩))) {i : Nat} {k : IntKind} {n : Int} (hi : cs[i]? = some (.int k n)) : w.cell? ⟨b,i,none⟩ = some (.int k n) := by
 cases h with
 | pref _ _ _ vs hf hc hd =>
  have h1 := (hc i (List.getElem?_eq_some_iff.1 hi).1).2
  rw [Nat.zero_add] at h1
  have := int_of (hd i _ hi)
  rw [this] at h1
  exact h1
theorem tabs_of_heap {g : Gh} {H : AHeap} {w : World} (h : HeapOK g H w) : Lib.Utf8Tabs 0 1 w := by
 have g0 := h.glob 0 tab0 rfl
 have g1 := h.glob 1 tab1 rfl
 exact ⟨fun k hk => pref_cell g0 (tab0_at hk),fun k hk => ⟨pref_cell g1 (tab1_get k hk).1,pref_cell g1 (tab1_get k hk).2⟩⟩
theorem valid_sound : FSound Tryd.prog 67 validF := by
 refine Go.Abs.text_sound Tryd.func67 (by kernel_rfl) (by kernel_rfl) (ok := fun s => s.length ≤ 9223372036854775807) (out := fun s => .bool (Lib.validD s)) (res := fun s => .bool (Lib.validD s.data.toList)) (fun bd w s => .bool _) fun g H w hH s hs => ?_
 exact Any.utf8_ValidString laysValid s w (by simpa using hs) (tabs_of_heap hH)
def ren3 : Go.Shelf.Ren := ⟨fun f => if f = 197 then 35 else if f = 260 then 55 else f,fun t => if t = 105 then 54 else if t = 119 then 89 else if t = 46 then 69 else if t = 139 then 92 else if t = 138 then 91 else t,fun g => g - 3⟩
theorem laysDec : Go.Proofs.Lays.n197 Tryd.prog ren3 := by
 constructor <;> first | kernel_rfl | exact fun w => by kernel_rfl
theorem dec_sound : FSound Tryd.prog 35 decF := by
 have h := text2_sound (P := Tryd.prog) Tryd.func35 (by kernel_rfl) (by kernel_rfl) (ok := fun _ => True) (out := fun s => .int .i32 ((dg s).1 : Nat)) (out2 := fun s => .int .i64 ((dg s).2 : Nat)) (res := fun s => .int .i32 ((dg s.data.toList).1 : Nat)) (res2 := fun s => .int .i64 ((dg s.data.toList).2 : Nat)) (fun bd w s => .int _ _) (fun bd w s => .int _ _) fun g H w hH s _ => by
  have e : dg s.data.toList = decodeGo s := by
   obtain ⟨⟨l⟩⟩ := s
   rfl
  rw [e]
  exact Any.utf8_DecodeRuneInString laysDec s w (tabs_of_heap hH)
 refine h.less fun lim a H r hr => ?_
 unfold decF at hr
 split at hr
 ·simp only [if_true]; exact hr
 ·cases hr
theorem idx_sound : FSound Tryd.prog 70 idxByteF := idxByte_sound Tryd.func70 (by kernel_rfl) (by kernel_rfl) (by kernel_rfl) (by kernel_rfl)
theorem prims1_ok : ∀ f F,prims1 f = some F → FSound Tryd.prog f F := fun f F h => by
 unfold prims1 at h
 split at h
 ·rename_i hf; subst hf; cases h; exact valid_sound
 split at h
 ·rename_i hf; subst hf; cases h; exact idx_sound
 split at h
 ·rename_i hf; subst hf; cases h; exact dec_sound
 split at h
 ·rename_i hf; subst hf; cases h; exact sort_sound
 split at h
 ·rename_i hf; subst hf; cases h; exact small_sound
 split at h
 ·rename_i hf; subst hf; cases h; exact len64_sound
 split at h
 ·rename_i hf; subst hf; cases h; exact fb_sound
 ·cases h
theorem hS1 : EnvS Tryd.prog pf X1 XP1 := EnvS.slim mixed prims1_ok (fun _ _ h => by cases h) (fun _ _ h => by cases h) codeAll
theorem prims0_ok : ∀ f F,prims0 f = some F → FSound Tryd.prog f F := fun f F h => by
 unfold prims0 at h
 split at h
 ·rename_i hf; subst hf; cases h; exact text_sound hS1
 ·exact prims1_ok f F h
theorem primsP_ok : ∀ f F,primsP f = some F → PSound Tryd.prog f F := fun f F h => by
 unfold primsP at h
 split at h
 ·rename_i hf; subst hf; cases h; exact text_psound hS1
 ·cases h
theorem hS0 : EnvS Tryd.prog pf X0 XP := EnvS.slim mixed prims0_ok primsP_ok prims_disj codeAll
end Go.Proofs.YtmhmjlfajlpabaaDoor
