/- Part 7. -/
import Derived.Test.YtmhmjlfajlpabaaDoorPartF
import Derived.Recover
import Derived.KernelRfl
import Derived.Test.YtmhmjlfajlpabaaDoorProg
set_option linter.all false
set_option maxRecDepth 100000
namespace Go.Proofs.YtmhmjlfajlpabaaDoor
open Go Go.Abs
theorem bytesOf_len : ∀ {xs : List D} {s : Tx},bytesOf xs = some s → xs.length = s.length
 | [],s,h => by cases h; rfl
 | .int k n :: xs,s,h => by
  cases k with
  | u8 =>
   simp only [bytesOf] at h
   split at h
   ·rename_i bs hb; cases h; simp [bytesOf_len hb]
   ·cases h
  | _ => cases h
 | .bool _ :: _,_,h => by cases h
 | .str _ :: _,_,h => by cases h
 | .nilptr :: _,_,h => by cases h
 | .slice _ :: _,_,h => by cases h
 | .agg _ :: _,_,h => by cases h
theorem avbytes_len : ∀ {cs : List AV} {s : Tx},AV.bytes cs = some s → cs.length = s.length
 | [],s,h => by cases h; rfl
 | .d (.int k n) :: xs,s,h => by
  cases k with
  | u8 =>
   simp only [AV.bytes] at h
   split at h
   ·rename_i bs hb; cases h; simp [avbytes_len hb]
   ·cases h
  | _ => cases h
 | .d (.bool _) :: _,_,h => by cases h
 | .d (.str _) :: _,_,h => by cases h
 | .d .nilptr :: _,_,h => by cases h
 | .d (.slice _) :: _,_,h => by cases h
 | .d (.agg _) :: _,_,h => by cases h
 | .undef :: _,_,h => by cases h
 | .fslice _ :: _,_,h => by cases h
 | .lit _ :: _,_,h => by cases h
 | .ptr _ _ :: _,_,h => by cases h
 | .pref _ :: _,_,h => by cases h
 | .oslice _ _ _ _ _ :: _,_,h => by cases h
 | .agg _ :: _,_,h => by cases h
 | .tuple _ :: _,_,h => by cases h
 | .mapr _ :: _,_,h => by cases h
 | .nilmap :: _,_,h => by cases h
 | .func _ _ :: _,_,h => by cases h
 | .nilfunc :: _,_,h => by cases h
 | .iface _ _ :: _,_,h => by cases h
 | .niliface :: _,_,h => by cases h
 | .ubool :: _,_,h => by cases h
theorem bytesA_cases {H : AHeap} {v : AV} {s : Tx} (h : bytesA H v = some s) : (∃ xs,v = .d (.slice xs) ∧ bytesOf xs = some s ∧ xs.length = s.length) ∨
  ∃ r off cap cs,v = .oslice r off s.length cap 1 ∧ H[r]? = some (.cells cs) ∧ off + s.length ≤ cs.length ∧ AV.bytes ((cs.drop off).take s.length) = some s := by
 unfold bytesA at h
 split at h
 ·rename_i xs; exact .inl ⟨xs,rfl,h,bytesOf_len h⟩
 ·rename_i r off len cap sz
  split at h
  ·rename_i hz
   subst hz
   split at h
   ·rename_i cs hr
    split at h
    ·rename_i hl
     have := avbytes_len h
     simp only [List.length_take,List.length_drop] at this
     obtain rfl : len = s.length := by omega
     exact .inr ⟨r,off,cap,cs,rfl,hr,hl,h⟩
    ·cases h
   ·cases h
  ·cases h
 ·cases h
section
variable {lim : Nat} {H : AHeap} {s : Tx} (x : Nat → AV) {v0 : AV}
theorem v10_0 : V X0 XP lim q10_0 ⟨[v0,x 1,x 2,x 3,x 4,x 5,x 6,x 7,x 8,x 9,x 10,x 11,x 12,x 13,x 14,x 15,x 16,x 17,x 18,x 19,x 20,x 21,x 22,x 23,x 24,x 25,x 26,x 27,x 28,x 29,x 30,x 31,x 32,x 33,x 34,x 35,x 36,x 37,x 38,x 39,x 40,x 41,x 42,x 43,x 44,x 45,x 46,x 47,x 48],H⟩ (fun e st => e = .normal ∧ ∃ x : Nat → AV,st = ⟨[v0,x 1,.ptr H.length 0,.ptr (H.length + 1) 0,.ptr (H.length + 2) 0,x 5,x 6,x 7,x 8,x 9,x 10,x 11,x 12,x 13,x 14,x 15,x 16,x 17,x 18,x 19,x 20,x 21,x 22,x 23,x 24,x 25,x 26,x 27,x 28,x 29,x 30,x 31,x 32,x 33,x 34,x 35,x 36,x 37,x 38,x 39,x 40,x 41,x 42,x 43,x 44,x 45,x 46,x 47,x 48],H ++ [zO,nO 0,nO 0]⟩) (fun _ => False) := by
 unfold q10_0
 have a1 : (H ++ [zO]).length = H.length + 1 := by simp
 have a2 : (H ++ [zO] ++ [nO 0]).length = H.length + 2 := by simp
 have a3 : H ++ [zO] ++ [nO 0] ++ [nO 0] = H ++ [zO,nO 0,nO 0] := by simp
 refine v_r (j_ a1 (j_ a2 a3)) ?_
 exact ⟨by first | exact trivial | exact rfl,ex_st _ _ _ rfl⟩
theorem v10_1 {K : AHeap} {n : Nat} (hb : bytesA H v0 = some s) : V X0 XP lim q10_1 ⟨[v0,x 1,.ptr n 0,.ptr (n + 1) 0,.ptr (n + 2) 0,x 5,x 6,x 7,x 8,x 9,x 10,x 11,x 12,x 13,x 14,x 15,x 16,x 17,x 18,x 19,x 20,x 21,x 22,x 23,x 24,x 25,x 26,x 27,x 28,x 29,x 30,x 31,x 32,x 33,x 34,x 35,x 36,x 37,x 38,x 39,x 40,x 41,x 42,x 43,x 44,x 45,x 46,x 47,x 48],K⟩ (fun e st => e = .normal ∧ ∃ x : Nat → AV,st = ⟨[v0,x 1,.ptr n 0,.ptr (n + 1) 0,.ptr (n + 2) 0,x 5,x 6,x 7,x 8,boolD (decide (16384 < s.length)),x 10,x 11,x 12,x 13,x 14,x 15,x 16,x 17,x 18,x 19,x 20,x 21,x 22,x 23,x 24,x 25,x 26,x 27,x 28,x 29,x 30,x 31,x 32,x 33,x 34,x 35,x 36,x 37,x 38,x 39,x 40,x 41,x 42,x 43,x 44,x 45,x 46,x 47,x 48],K⟩) (fun _ => False) := by
 unfold q10_1
 have e : decide ((s.length : Int) > 16384) = decide (16384 < s.length) := by rw [Bool.eq_iff_iff]; simp; omega
 rcases bytesA_cases hb with ⟨xs,rfl,h1,h2⟩ | ⟨r,off,cap,cs,rfl,h1,h2,h3⟩
 ·refine v_r (j_ h2 e) ?_
  exact ⟨by first | exact trivial | exact rfl,ex_st _ _ _ rfl⟩
 ·refine v_r e ?_
  exact ⟨by first | exact trivial | exact rfl,ex_st _ _ _ rfl⟩
theorem v10_2 (hl : lim ≤ H.length) : V X0 XP lim q10_2 ⟨[x 0,x 1,.ptr H.length 0,.ptr (H.length + 1) 0,.ptr (H.length + 2) 0,x 5,x 6,x 7,x 8,x 9,x 10,x 11,x 12,x 13,x 14,x 15,x 16,x 17,x 18,x 19,x 20,x 21,x 22,x 23,x 24,x 25,x 26,x 27,x 28,x 29,x 30,x 31,x 32,x 33,x 34,x 35,x 36,x 37,x 38,x 39,x 40,x 41,x 42,x 43,x 44,x 45,x 46,x 47,x 48],H ++ [zO,nO 0,nO 0]⟩ (fun e st => e = .normal ∧ ∃ x : Nat → AV,st = ⟨[x 0,x 1,.ptr H.length 0,.ptr (H.length + 1) 0,.ptr (H.length + 2) 0,x 5,x 6,x 7,x 8,x 9,x 10,x 11,x 12,x 13,x 14,x 15,x 16,x 17,x 18,x 19,x 20,x 21,x 22,x 23,x 24,x 25,x 26,x 27,x 28,x 29,x 30,x 31,x 32,x 33,x 34,x 35,x 36,x 37,x 38,x 39,x 40,x 41,x 42,x 43,x 44,x 45,x 46,x 47,x 48],H ++ [zO,nO 13,nO 16384]⟩) (fun _ => False) := by
 unfold q10_2
 obtain ⟨K,kk,g1,g2,g3,s1,s2,s3⟩ := three H
 have l1 : lim ≤ H.length + 1 := by omega
 have l2 : lim ≤ H.length + 2 := by omega
 rw [← kk,← kk]
 refine v_r (j_ g1 (j_ g2 (j_ g3 (j_ s1 (j_ s2 (j_ s3 (j_ hl (j_ l1 l2)))))))) ?_
 exact ⟨by first | exact trivial | exact rfl,ex_stH rfl rfl⟩
theorem v10_3 (hb : bytesA H v0 = some s) : V X0 XP lim q10_3 ⟨[v0,x 1,.ptr H.length 0,.ptr (H.length + 1) 0,.ptr (H.length + 2) 0,x 5,x 6,x 7,x 8,x 9,x 10,x 11,x 12,x 13,x 14,x 15,x 16,x 17,x 18,x 19,x 20,x 21,x 22,x 23,x 24,x 25,x 26,x 27,x 28,x 29,x 30,x 31,x 32,x 33,x 34,x 35,x 36,x 37,x 38,x 39,x 40,x 41,x 42,x 43,x 44,x 45,x 46,x 47,x 48],H ++ [zO,nO 0,nO 0]⟩ (fun e st => e = .normal ∧ ∃ x : Nat → AV,st = ⟨[x 0,x 1,.ptr H.length 0,.ptr (H.length + 1) 0,.ptr (H.length + 2) 0,.ptr (H.length + 3) 0,x 6,x 7,x 8,x 9,x 10,x 11,x 12,x 13,x 14,x 15,x 16,x 17,x 18,x 19,x 20,x 21,x 22,x 23,x 24,x 25,x 26,x 27,x 28,x 29,x 30,x 31,x 32,x 33,x 34,x 35,x 36,x 37,x 38,x 39,x 40,x 41,x 42,x 43,x 44,x 45,x 46,x 47,x 48],H ++ [zO,nO 0,nO 0,rdO s (0 : Nat)]⟩) (fun _ => False) := by
 unfold q10_3
 have a1 : (H ++ [zO,nO 0,nO 0]).length = H.length + 3 := by simp
 have a2 : ∀ o,H ++ [zO,nO 0,nO 0] ++ [o] = H ++ [zO,nO 0,nO 0,o] := fun o => by simp
 rcases bytesA_cases hb with ⟨xs,rfl,h1,h2⟩ | ⟨r,off,cap,cs,rfl,h1,h2,h3⟩
 ·refine v_r (j_ h1 (j_ a1 a2)) ?_
  exact ⟨by first | exact trivial | exact rfl,ex_st _ _ _ rfl⟩
 ·have hr : (H ++ [zO,nO 0,nO 0])[r]? = some (.cells cs) := by
   rw [List.getElem?_append_left (List.getElem?_eq_some_iff.1 h1).1]; exact h1
  refine v_r (j_ h2 (j_ h3 (j_ hr (j_ a1 a2)))) ?_
  exact ⟨by first | exact trivial | exact rfl,ex_st _ _ _ rfl⟩
theorem v10_4 (hs : s.length ≤ 16384) : V X0 XP lim q10_4 ⟨[x 0,x 1,.ptr H.length 0,.ptr (H.length + 1) 0,.ptr (H.length + 2) 0,.ptr (H.length + 3) 0,x 6,x 7,x 8,x 9,x 10,x 11,x 12,x 13,x 14,x 15,x 16,x 17,x 18,x 19,x 20,x 21,x 22,x 23,x 24,x 25,x 26,x 27,x 28,x 29,x 30,x 31,x 32,x 33,x 34,x 35,x 36,x 37,x 38,x 39,x 40,x 41,x 42,x 43,x 44,x 45,x 46,x 47,x 48],H ++ [zO,nO 0,nO 0,rdO s (0 : Nat)]⟩ (fun e st => e = .normal ∧ ∃ x : Nat → AV,st = ⟨[x 0,x 1,.ptr H.length 0,.ptr (H.length + 1) 0,.ptr (H.length + 2) 0,.ptr (H.length + 3) 0,intD (brokenN s),x 7,x 8,x 9,x 10,x 11,x 12,x 13,x 14,x 15,x 16,x 17,x 18,x 19,x 20,x 21,x 22,x 23,x 24,x 25,x 26,x 27,x 28,x 29,x 30,x 31,x 32,x 33,x 34,x 35,x 36,x 37,x 38,x 39,x 40,x 41,x 42,x 43,x 44,x 45,x 46,x 47,x 48],H ++ [zO,nO 0,nO 0,rdO s (0 : Nat)]⟩) (fun _ => False) := by
 unfold q10_4
 obtain ⟨K,kk,g1,g2,g3,g4,s1,s2,s3,s4⟩ := four H
 rw [← kk]
 have hb := broken_ev (pr := prims0) lim (K zO (nO 0) (nO 0) (rdO s (0 : Nat))) s (by omega)
 (apply V_drw; focus (refine Evl.call (X := X0) (hb) (Evl.all fun k e1 => ?_); simp (maxSteps := 100000000) only [zz,zd,simprocAttr,g4,e1]; (first | done | with_reducible exact rfl))) <;> (try simp only [zp,simprocAttr])
 exact ⟨by first | exact trivial | exact rfl,ex_st _ _ _ rfl⟩
theorem v10_5 {K : AHeap} {n : Nat} {b : Int} : V X0 XP lim q10_5 ⟨[x 0,x 1,.ptr n 0,.ptr (n + 1) 0,.ptr (n + 2) 0,.ptr (n + 3) 0,intD b,x 7,x 8,x 9,x 10,x 11,x 12,x 13,x 14,x 15,x 16,x 17,x 18,x 19,x 20,x 21,x 22,x 23,x 24,x 25,x 26,x 27,x 28,x 29,x 30,x 31,x 32,x 33,x 34,x 35,x 36,x 37,x 38,x 39,x 40,x 41,x 42,x 43,x 44,x 45,x 46,x 47,x 48],K⟩ (fun e st => e = .normal ∧ ∃ x : Nat → AV,st = ⟨[x 0,x 1,.ptr n 0,.ptr (n + 1) 0,.ptr (n + 2) 0,.ptr (n + 3) 0,intD b,x 7,x 8,x 9,x 10,x 11,x 12,x 13,x 14,x 15,x 16,x 17,x 18,x 19,x 20,boolD (decide (b ≥ 0)),x 22,x 23,x 24,x 25,x 26,x 27,x 28,x 29,x 30,x 31,x 32,x 33,x 34,x 35,x 36,x 37,x 38,x 39,x 40,x 41,x 42,x 43,x 44,x 45,x 46,x 47,x 48],K⟩) (fun _ => False) := by
 unfold q10_5
 refine v_r trivial ?_
 exact ⟨by first | exact trivial | exact rfl,ex_st _ _ _ rfl⟩
theorem v10_6 {b : Int} (hl : lim ≤ H.length) : V X0 XP lim q10_6 ⟨[x 0,x 1,.ptr H.length 0,.ptr (H.length + 1) 0,.ptr (H.length + 2) 0,.ptr (H.length + 3) 0,intD b,x 7,x 8,x 9,x 10,x 11,x 12,x 13,x 14,x 15,x 16,x 17,x 18,x 19,x 20,x 21,x 22,x 23,x 24,x 25,x 26,x 27,x 28,x 29,x 30,x 31,x 32,x 33,x 34,x 35,x 36,x 37,x 38,x 39,x 40,x 41,x 42,x 43,x 44,x 45,x 46,x 47,x 48],H ++ [zO,nO 0,nO 0,rdO s (0 : Nat)]⟩ (fun e st => e = .normal ∧ ∃ x : Nat → AV,st = ⟨[x 0,x 1,.ptr H.length 0,.ptr (H.length + 1) 0,.ptr (H.length + 2) 0,x 5,x 6,x 7,x 8,x 9,x 10,x 11,x 12,x 13,x 14,x 15,x 16,x 17,x 18,x 19,x 20,x 21,x 22,x 23,x 24,x 25,x 26,x 27,x 28,x 29,x 30,x 31,x 32,x 33,x 34,x 35,x 36,x 37,x 38,x 39,x 40,x 41,x 42,x 43,x 44,x 45,x 46,x 47,x 48],H ++ [zO,nO 10,nO b,rdO s (0 : Nat)]⟩) (fun _ => False) := by
 unfold q10_6
 obtain ⟨K,kk,g1,g2,g3,g4,s1,s2,s3,s4⟩ := four H
 have l1 : lim ≤ H.length + 1 := by omega
 have l2 : lim ≤ H.length + 2 := by omega
 rw [← kk,← kk]
 refine v_r (j_ g1 (j_ g2 (j_ g3 (j_ s1 (j_ s2 (j_ s3 (j_ hl (j_ l1 l2)))))))) ?_
 exact ⟨by first | exact trivial | exact rfl,ex_stH rfl rfl⟩
theorem v10_8 (hl : lim ≤ H.length + 3) (hs : s.length ≤ 16384) : V X0 XP lim q10_8 ⟨[x 0,x 1,.ptr H.length 0,.ptr (H.length + 1) 0,.ptr (H.length + 2) 0,.ptr (H.length + 3) 0,x 6,x 7,x 8,x 9,x 10,x 11,x 12,x 13,x 14,x 15,x 16,x 17,x 18,x 19,x 20,x 21,x 22,x 23,x 24,x 25,x 26,x 27,x 28,x 29,x 30,x 31,x 32,x 33,x 34,x 35,x 36,x 37,x 38,x 39,x 40,x 41,x 42,x 43,x 44,x 45,x 46,x 47,x 48],H ++ [zO,nO 0,nO 0,rdO s (0 : Nat)]⟩ (fun e st => e = .normal ∧ ∃ x : Nat → AV,st = ⟨[x 0,x 1,.ptr H.length 0,.ptr (H.length + 1) 0,.ptr (H.length + 2) 0,.ptr (H.length + 3) 0,x 6,x 7,x 8,x 9,x 10,x 11,x 12,x 13,x 14,x 15,x 16,x 17,x 18,x 19,x 20,x 21,x 22,x 23,x 24,x 25,x 26,x 27,x 28,x 29,x 30,x 31,x 32,x 33,x 34,x 35,x 36,x 37,x 38,x 39,x 40,x 41,x 42,x 43,x 44,x 45,x 46,x 47,x 48],H ++ [zO,nO 0,nO 0,rdO s (blanksS s 0)]⟩) (fun _ => False) := by
 unfold q10_8
 obtain ⟨K,kk,g1,g2,g3,g4,s1,s2,s3,s4⟩ := four H
 rw [← kk,← kk]
 have hb := blanks_ev (pr := prims0) lim (K zO (nO 0) (nO 0) (rdO s (0 : Nat))) (H.length + 3) s 0 (g4 _ _ _ _) hl (Nat.zero_le _) hs
 rw [s4] at hb
 (apply V_drw; focus (refine Evl.call (X := X0) (hb) (Evl.all fun k e1 => ?_); simp (maxSteps := 100000000) only [zz,zd,simprocAttr,e1]; (first | done | with_reducible exact rfl))) <;> (try simp only [zp,simprocAttr])
 exact ⟨by first | exact trivial | exact rfl,ex_st _ _ _ rfl⟩
theorem v10_9 {j : J} {p q : Nat} (hl : lim ≤ H.length) (hs : s.length ≤ 16384) (hp : p ≤ s.length) (hv : valueS s (2 * s.length + 3) 1 p = .ok (j,q)) : V X0 XP lim q10_9 ⟨[x 0,x 1,.ptr H.length 0,.ptr (H.length + 1) 0,.ptr (H.length + 2) 0,.ptr (H.length + 3) 0,x 6,x 7,x 8,x 9,x 10,x 11,x 12,x 13,x 14,x 15,x 16,x 17,x 18,x 19,x 20,x 21,x 22,x 23,x 24,x 25,x 26,x 27,x 28,x 29,x 30,x 31,x 32,x 33,x 34,x 35,x 36,x 37,x 38,x 39,x 40,x 41,x 42,x 43,x 44,x 45,x 46,x 47,x 48],H ++ [zO,nO 0,nO 0,rdO s p]⟩ (fun e st => e = .normal ∧ ∃ x : Nat → AV,st = ⟨[x 0,x 1,.ptr H.length 0,.ptr (H.length + 1) 0,.ptr (H.length + 2) 0,.ptr (H.length + 3) 0,x 6,x 7,x 8,x 9,x 10,x 11,x 12,x 13,x 14,x 15,x 16,x 17,x 18,x 19,x 20,x 21,x 22,x 23,x 24,x 25,x 26,x 27,x 28,x 29,x 30,x 31,x 32,x 33,x 34,x 35,x 36,x 37,x 38,x 39,x 40,x 41,x 42,x 43,x 44,x 45,x 46,x 47,x 48],H ++ [jO j,nO 0,nO 0,rdO s q]⟩) (fun _ => False) := by
 unfold q10_9
 obtain ⟨K,kk,g1,g2,g3,g4,s1,s2,s3,s4⟩ := four H
 rw [← kk,← kk]
 have he := (value_all (2 * s.length + 3)) lim (K zO (nO 0) (nO 0) (rdO s p)) (H.length + 3) s p 1 (g4 _ _ _ _) (by omega) hs hp (by omega) (by omega)
 have ev : Ev X0 25 lim [.ptr (H.length + 3) 0,intD 1] (K zO (nO 0) (nO 0) (rdO s p)) _ _ := he.okJ hv
 rw [s4,jd] at ev
 (apply V_drw; focus (refine Evl.call (X := X0) (ev) (Evl.all fun k e1 => ?_); simp (maxSteps := 100000000) only [zz,zd,simprocAttr,g1,s1,hl,e1]; (first | done | with_reducible exact rfl))) <;> (try simp only [zp,simprocAttr])
 exact ⟨by first | exact trivial | exact rfl,ex_st _ _ _ rfl⟩
theorem v10_10 {a b c : AObj} {p : Nat} (hl : lim ≤ H.length + 3) (hs : s.length ≤ 16384) (hp : p ≤ s.length) : V X0 XP lim q10_10 ⟨[x 0,x 1,.ptr H.length 0,.ptr (H.length + 1) 0,.ptr (H.length + 2) 0,.ptr (H.length + 3) 0,x 6,x 7,x 8,x 9,x 10,x 11,x 12,x 13,x 14,x 15,x 16,x 17,x 18,x 19,x 20,x 21,x 22,x 23,x 24,x 25,x 26,x 27,x 28,x 29,x 30,x 31,x 32,x 33,x 34,x 35,x 36,x 37,x 38,x 39,x 40,x 41,x 42,x 43,x 44,x 45,x 46,x 47,x 48],H ++ [a,b,c,rdO s p]⟩ (fun e st => e = .normal ∧ ∃ x : Nat → AV,st = ⟨[x 0,x 1,.ptr H.length 0,.ptr (H.length + 1) 0,.ptr (H.length + 2) 0,.ptr (H.length + 3) 0,x 6,x 7,x 8,x 9,x 10,x 11,x 12,x 13,x 14,x 15,x 16,x 17,x 18,x 19,x 20,x 21,x 22,x 23,x 24,x 25,x 26,x 27,x 28,x 29,x 30,x 31,x 32,x 33,x 34,x 35,x 36,x 37,x 38,x 39,x 40,x 41,x 42,x 43,x 44,x 45,x 46,x 47,x 48],H ++ [a,b,c,rdO s (blanksS s p)]⟩) (fun _ => False) := by
 unfold q10_10
 obtain ⟨K,kk,g1,g2,g3,g4,s1,s2,s3,s4⟩ := four H
 rw [← kk,← kk]
 have hb := blanks_ev (pr := prims0) lim (K a b c (rdO s p)) (H.length + 3) s p (g4 _ _ _ _) hl hp hs
 rw [s4] at hb
 (apply V_drw; focus (refine Evl.call (X := X0) (hb) (Evl.all fun k e1 => ?_); simp (maxSteps := 100000000) only [zz,zd,simprocAttr,e1]; (first | done | with_reducible exact rfl))) <;> (try simp only [zp,simprocAttr])
 exact ⟨by first | exact trivial | exact rfl,ex_st _ _ _ rfl⟩
theorem v10_11 {a b c : AObj} {p : Nat} : V X0 XP lim q10_11 ⟨[x 0,x 1,.ptr H.length 0,.ptr (H.length + 1) 0,.ptr (H.length + 2) 0,.ptr (H.length + 3) 0,x 6,x 7,x 8,x 9,x 10,x 11,x 12,x 13,x 14,x 15,x 16,x 17,x 18,x 19,x 20,x 21,x 22,x 23,x 24,x 25,x 26,x 27,x 28,x 29,x 30,x 31,x 32,x 33,x 34,x 35,x 36,x 37,x 38,x 39,x 40,x 41,x 42,x 43,x 44,x 45,x 46,x 47,x 48],H ++ [a,b,c,rdO s p]⟩ (fun e st => e = .normal ∧ ∃ x : Nat → AV,st = ⟨[x 0,x 1,.ptr H.length 0,.ptr (H.length + 1) 0,.ptr (H.length + 2) 0,.ptr (H.length + 3) 0,x 6,x 7,x 8,x 9,x 10,x 11,x 12,x 13,x 14,x 15,x 16,x 17,x 18,x 19,x 20,x 21,x 22,x 23,x 24,x 25,x 26,x 27,x 28,x 29,x 30,x 31,x 32,x 33,x 34,x 35,x 36,x 37,x 38,x 39,boolD (decide (p < s.length)),x 41,x 42,x 43,x 44,x 45,x 46,x 47,x 48],H ++ [a,b,c,rdO s p]⟩) (fun _ => False) := by
 unfold q10_11
 obtain ⟨K,kk,g1,g2,g3,g4,s1,s2,s3,s4⟩ := four H
 have e : decide ((p : Int) < (s.length : Int)) = decide (p < s.length) := by rw [Bool.eq_iff_iff]; simp
 rw [← kk]
 refine v_r (j_ g4 e) ?_
 exact ⟨by first | exact trivial | exact rfl,ex_st _ _ _ rfl⟩
theorem v10_13 {j : J} {n : Nat} {o : AObj} (hl : lim ≤ H.length) (hj : OrdOK n j) (hjw : wt j ≤ 100000000000) : V X0 XP lim q10_13 ⟨[x 0,x 1,.ptr H.length 0,.ptr (H.length + 1) 0,.ptr (H.length + 2) 0,.ptr (H.length + 3) 0,x 6,x 7,x 8,x 9,x 10,x 11,x 12,x 13,x 14,x 15,x 16,x 17,x 18,x 19,x 20,x 21,x 22,x 23,x 24,x 25,x 26,x 27,x 28,x 29,x 30,x 31,x 32,x 33,x 34,x 35,x 36,x 37,x 38,x 39,x 40,x 41,x 42,x 43,x 44,x 45,x 46,x 47,x 48],H ++ [jO j,nO 0,nO 0,o]⟩ (fun e st => e = .normal ∧ ∃ x : Nat → AV,st = ⟨[x 0,x 1,.ptr H.length 0,.ptr (H.length + 1) 0,.ptr (H.length + 2) 0,x 5,x 6,x 7,x 8,x 9,x 10,x 11,x 12,x 13,x 14,x 15,x 16,x 17,x 18,x 19,x 20,x 21,x 22,x 23,x 24,x 25,x 26,x 27,x 28,x 29,x 30,x 31,x 32,x 33,x 34,x 35,x 36,x 37,x 38,x 39,x 40,x 41,x 42,x 43,x 44,x 45,x 46,x 47,x 48],H ++ [jO (orderJ j),nO 0,nO 0,o]⟩) (fun _ => False) := by
 unfold q10_13
 obtain ⟨K,kk,g1,g2,g3,g4,s1,s2,s3,s4⟩ := four H
 have l1 : lim ≤ H.length + 1 := by omega
 have l2 : lim ≤ H.length + 2 := by omega
 rw [← kk,← kk]
 have he := ordered_ev (pr := prims0) n lim (K (jO j) (nO 0) (nO 0) o) j hj hjw
 rw [jd,jd] at he
 (apply V_drw; focus (refine Evl.call (X := X0) (he) (Evl.all fun k e1 => ?_); simp (maxSteps := 100000000) only [zz,zd,simprocAttr,g1,g2,g3,s1,s2,s3,hl,l1,l2,e1]; (first | done | with_reducible exact rfl))) <;> (try simp only [zp,simprocAttr])
 exact ⟨by first | exact trivial | exact rfl,ex_st _ _ _ rfl⟩
theorem v23_3n {n : Nat} : V X0 XP lim q23_3 ⟨[.ptr n 0,.ptr (n + 1) 0,.ptr (n + 2) 0,x 3,x 4,x 5,.niliface,x 7,x 8,x 9,x 10,x 11,x 12,x 13,x 14,x 15,x 16],H⟩ (fun e st => e = .normal ∧ ∃ x : Nat → AV,st = ⟨[x 0,x 1,x 2,x 3,x 4,x 5,x 6,x 7,boolD true,x 9,x 10,x 11,x 12,x 13,x 14,x 15,x 16],H⟩) (fun _ => False) := by
 unfold q23_3
 refine V_rg (fun k => rfl) ?_
 exact ⟨by first | exact trivial | exact rfl,ex_st _ _ _ rfl⟩
theorem v23_3p {n : Nat} {t : TypeId} {d : AV} : V X0 XP lim q23_3 ⟨[.ptr n 0,.ptr (n + 1) 0,.ptr (n + 2) 0,x 3,x 4,x 5,.iface t d,x 7,x 8,x 9,x 10,x 11,x 12,x 13,x 14,x 15,x 16],H⟩ (fun e st => e = .normal ∧ ∃ x : Nat → AV,st = ⟨[.ptr n 0,.ptr (n + 1) 0,.ptr (n + 2) 0,x 3,x 4,x 5,.iface t d,x 7,boolD false,x 9,x 10,x 11,x 12,x 13,x 14,x 15,x 16],H⟩) (fun _ => False) := by
 unfold q23_3
 refine V_rg (fun k => rfl) ?_
 exact ⟨by first | exact trivial | exact rfl,ex_st _ _ _ rfl⟩
theorem v23_4 : V X0 XP lim q23_4 ⟨[x 0,x 1,x 2,x 3,x 4,x 5,x 6,x 7,x 8,x 9,x 10,x 11,x 12,x 13,x 14,x 15,x 16],H⟩ (fun e st => e = .normal ∧ ∃ x : Nat → AV,st = ⟨[x 0,x 1,x 2,x 3,x 4,x 5,x 6,x 7,x 8,x 9,x 10,x 11,x 12,x 13,x 14,x 15,x 16],H⟩) (fun _ => False) := by
 unfold q23_4
 refine v_r trivial ?_
 exact ⟨by first | exact trivial | exact rfl,ex_st _ _ _ rfl⟩
theorem v23_6 {n : Nat} {e p : Int} (hl : lim ≤ H.length) : V X0 XP lim q23_6 ⟨[.ptr n 0,.ptr (n + 1) 0,.ptr (n + 2) 0,x 3,x 4,x 5,x 6,x 7,x 8,x 9,x 10,.d (.agg [.int .i64 e,.int .i64 p]),x 12,x 13,x 14,x 15,x 16],H⟩ (fun z st => z = .normal ∧ ∃ x : Nat → AV,st = ⟨[.ptr n 0,.ptr (n + 1) 0,.ptr (n + 2) 0,x 3,.ptr H.length 0,x 5,x 6,x 7,x 8,x 9,x 10,x 11,x 12,x 13,x 14,x 15,x 16],H ++ [.cells [intD e,intD p]]⟩) (fun _ => False) := by
 unfold q23_6
 have s1 : ∀ o o',(H ++ [o]).set H.length o' = H ++ [o'] := fun o o' => by rw [List.set_append_right _ _ (by omega)]; simp
 refine v_r (j_ s1 hl) ?_
 exact ⟨by first | exact trivial | exact rfl,ex_st _ _ _ rfl⟩
theorem v23_7 {n L : Nat} {e p a b : Int} {c1 c2 c3 c4 c5 : AV} (h1 : H[n]? = some (.cells [c1,c2,c3,c4,c5])) (h2 : H[n + 1]? = some (nO a)) (h3 : H[n + 2]? = some (nO b)) (h4 : H[L]? = some (.cells [intD e,intD p])) (hL : n + 3 ≤ L) (hl : lim ≤ n) :
  V X0 XP lim q23_7 ⟨[.ptr n 0,.ptr (n + 1) 0,.ptr (n + 2) 0,x 3,.ptr L 0,x 5,x 6,x 7,x 8,x 9,x 10,x 11,x 12,x 13,x 14,x 15,x 16],H⟩ (fun z st => z = .normal ∧ ∃ x : Nat → AV,st = ⟨[x 0,x 1,x 2,x 3,x 4,x 5,x 6,x 7,x 8,x 9,x 10,x 11,x 12,x 13,x 14,x 15,x 16],((H.set n zO).set (n + 1) (nO e)).set (n + 2) (nO p)⟩) (fun _ => False) := by
 unfold q23_7
 have l1 : lim ≤ n + 1 := by omega
 have l2 : lim ≤ n + 2 := by omega
 have g1 : ∀ o,(H.set n o)[n + 1]? = some (nO a) := fun o => by rw [List.getElem?_set_ne (by omega)]; exact h2
 have g2 : ∀ o o',((H.set n o).set (n + 1) o')[n + 2]? = some (nO b) := fun o o' => by rw [List.getElem?_set_ne (by omega),List.getElem?_set_ne (by omega)]; exact h3
 have g3 : ∀ o,(H.set n o)[L]? = some (.cells [intD e,intD p]) := fun o => by rw [List.getElem?_set_ne (by omega)]; exact h4
 have g4 : ∀ o o',((H.set n o).set (n + 1) o')[L]? = some (.cells [intD e,intD p]) := fun o o' => by rw [List.getElem?_set_ne (by omega),List.getElem?_set_ne (by omega)]; exact h4
 (apply V_rg; focus (intro k; simp (maxSteps := 100000000) only [zz,zd,simprocAttr,h1,h2,h3,h4,g1,g2,g3,g4,hl,l1,l2]; (first | done | with_reducible exact rfl))) <;> (try simp only [zp,simprocAttr])
 exact ⟨by first | exact trivial | exact rfl,ex_st _ _ _ rfl⟩
end
end Go.Proofs.YtmhmjlfajlpabaaDoor
set_option maxHeartbeats 1000000
set_option linter.unusedVariables false
namespace Go.Proofs.YtmhmjlfajlpabaaDoor
open Go Go.Abs Go.Proofs Go.RowKit Go.Lib
theorem b10_eq : b10 = .seq p10_0 (.seq (.seq p10_1 (.cond (.tmp 9) (.seq p10_2 .ret) .skip)) (.seq p10_3 (.seq (.seq p10_4 (.seq p10_5 (.cond (.tmp 21) (.seq p10_6 .ret) .skip))) (.seq p10_7 (.seq p10_8 (.seq p10_9 (.seq p10_10 (.seq (.seq p10_11 (.cond (.tmp 40) p10_12 .skip)) (.seq p10_13 .ret))))))))) := by kernel_rfl
theorem b23_eq : b23 = .seq p23_0 (.block 0 (.seq p23_3 (.cond (.tmp 8) p23_4 (.seq p23_5 (.cond (.tmp 10) (.seq p23_6 p23_7) (.seq p23_1 p23_2)))))) := by kernel_rfl
theorem fn10 : FnOK Tryd.prog 10 := ⟨_,Tryd.func10,by kernel_rfl,by kernel_rfl⟩
theorem body10 : Tryd.f10.body = some b10 := by kernel_rfl
theorem nt10 : Tryd.f10.ntmps = 49 := by kernel_rfl
theorem body23 : Tryd.f23.body = some b23 := by kernel_rfl
theorem nt23 : Tryd.f23.ntmps = 17 := by kernel_rfl
theorem res10 : compileRes Tryd.prog Tryd.f10.results.toList = some [.cell 2 true 5,.cell 3 false 1,.cell 4 false 1] := by kernel_rfl
theorem res23 : compileRes Tryd.prog Tryd.f23.results.toList = some [] := by kernel_rfl
theorem r7x_eq : p10_7 = .region 7 #[opAt p10_7 0,opAt p10_7 1] false := by kernel_rfl
theorem r9x_eq : p10_9 = .region 9 #[opAt p10_9 0,opAt p10_9 1,opAt p10_9 2] false := by kernel_rfl
theorem r12x_eq : p10_12 = .region 12 #[opAt p10_12 0,opAt p10_12 1,opAt p10_12 2,opAt p10_12 3,opAt p10_12 4,opAt p10_12 5] false := by kernel_rfl
theorem o7_1 : (opAt p10_7 1).op = .defer { callee := .value (.tmp 24),args := #[],argTypes := #[] } ∧ (opAt p10_7 1).guard = none ∧ (opAt p10_7 1).dst = none := ⟨by kernel_rfl,by kernel_rfl,by kernel_rfl⟩
theorem o9_1 : (opAt p10_9 1).op = .call { callee := .value (.func 25),args := #[.tmp 27,.const (.int .i64 1)],argTypes := #[41,3] } ∧ (opAt p10_9 1).guard = none := ⟨by kernel_rfl,by kernel_rfl⟩
theorem o12_5 : (opAt p10_12 5).op = .call { callee := .value (.func 26),args := #[.tmp 41,.const (.int .i64 16),.tmp 45],argTypes := #[41,27,3] } ∧ (opAt p10_12 5).guard = none := ⟨by kernel_rfl,by kernel_rfl⟩
theorem c7_0 : compileOper Tryd.prog noTk [opAt p10_7 0,opAt p10_7 1] (opAt p10_7 0) = some ⟨some 24,.mkFunc (.func 23) [.t 2,.t 3,.t 4],none,[]⟩ := by kernel_rfl
theorem c9_0 : compileOper Tryd.prog noTk [opAt p10_9 0,opAt p10_9 1,opAt p10_9 2] (opAt p10_9 0) = some ⟨some 27,.move (.t 5),none,[]⟩ := by kernel_rfl
noncomputable abbrev ops12 : List Oper := [opAt p10_12 0,opAt p10_12 1,opAt p10_12 2,opAt p10_12 3,opAt p10_12 4,opAt p10_12 5]
theorem c12_0 : compileOper Tryd.prog noTk ops12 (opAt p10_12 0) = some ⟨some 41,.move (.t 5),none,[]⟩ := by kernel_rfl
theorem c12_1 : compileOper Tryd.prog noTk ops12 (opAt p10_12 1) = some ⟨some 42,.move (.t 5),none,[]⟩ := by kernel_rfl
theorem c12_2 : compileOper Tryd.prog noTk ops12 (opAt p10_12 2) = some ⟨some 43,.nilCheck (.t 42),none,[]⟩ := by kernel_rfl
theorem c12_3 : compileOper Tryd.prog noTk ops12 (opAt p10_12 3) = some ⟨some 44,.fieldAddr 1 (.t 43),none,[]⟩ := by kernel_rfl
theorem c12_4 : compileOper Tryd.prog noTk ops12 (opAt p10_12 4) = some ⟨some 45,.load false 1 (.t 44),none,[]⟩ := by kernel_rfl
theorem r0x_eq : p23_0 = .region 0 #[opAt p23_0 0] false := by kernel_rfl
theorem o0_0 : (opAt p23_0 0).op = .call { callee := .builtin .recover,args := #[],argTypes := #[] } ∧ (opAt p23_0 0).guard = none ∧ (opAt p23_0 0).dst = some 6 := ⟨by kernel_rfl,by kernel_rfl,by kernel_rfl⟩
theorem r5x_eq : p23_5 = .region 5 #[opAt p23_5 0,opAt p23_5 1,opAt p23_5 2] false := by kernel_rfl
theorem o5_0 : (opAt p23_5 0).op = .typeAssert (.tmp 6) 20 45 true ∧ (opAt p23_5 0).guard = none ∧ (opAt p23_5 0).dst = some 9 := ⟨by kernel_rfl,by kernel_rfl,by kernel_rfl⟩
theorem c5_x : [opAt p23_5 1,opAt p23_5 2].mapM (compileOper Tryd.prog noTk [opAt p23_5 0,opAt p23_5 1,opAt p23_5 2]) = some [⟨some 10,.extract (.t 9) 1,none,[]⟩,⟨some 11,.extract (.t 9) 0,none,[]⟩] := by kernel_rfl
section
variable [Dfr] {P : Program} {g : Gh} {w : World} {st : St} {a : Act} {Q : Exit → Act → World → Prop}
theorem Inv.weak (h : Inv g st a w) {T : List AV} (hl : T.length = st.T.length) (hT : ∀ (i : Nat) x,T[i]? = some x → x = .undef ∨ st.T[i]? = some x) : Inv g ⟨T,st.H⟩ a w where
 heap := h.heap
 size := by rw [← h.size]; exact hl
 tok i x v hx hv := by
  rcases hT i x hx with rfl | hx'
  ·exact ⟨.undef _,FOK.ne (by simp)⟩
  ·exact h.tok i x v hx' hv
 nores := h.nores
 defers := h.defers
theorem Inv.move (h : Inv g st a w) {g' : Gh} {H' : AHeap} {w' : World} (hw : WF g w g' w') (hH : HeapOK g' H' w') (hn : ∀ b,g'.own b ≠ .res) (hT : ∀ x ∈ st.T,∀ xs,x ≠ .fslice xs) : Inv g' ⟨st.T,H'⟩ a w' where
 heap := hH
 size := h.size
 tok i x v hx hv := ⟨hw.vr (h.tok i x v hx hv).1,FOK.ne (hT x (List.mem_of_getElem? hx))⟩
 nores := hn
 defers := h.defers
theorem fn_enter {f : FuncId} (hf : FnOK P f) (xs : Array Value) (w : World) : (callFunc f xs).run P w = .ok (.enter f xs) w := by
 obtain ⟨fn,hfn,hb,hname⟩ := hf
 have : fn.body.isNone = false := by cases e : fn.body <;> simp_all
 simp only [callFunc,Sem.run_bind,run_program,Result.andThen_ok,hfn,hname,this]
 simp
theorem hand_panic {ops : Array Oper} {o : Oper} {rest : List Oper} (hg : o.guard = none) {f : FuncId} {xs : Array Operand} {ts : Array TypeId} (ho : o.op = .call { callee := .value (.func f),args := xs,argTypes := ts }) (hf : FnOK P f)
  {R : Ending → World → Prop} (hc : Calls P f (xs.map a.eval) w R) (hk : ∀ e w',R e w' → ∃ ch,e = .panicked ch ∧ Q (.panic ch) a w') : wpList P ops Q (o :: rest) a w := by
 have he : (execOp a.eval o).run P w = .ok (.enter f (xs.map a.eval)) w := by
  obtain ⟨dst,op,type,pos,after,guard⟩ := o
  simp only at ho; subst ho
  show (callFunc f (#[] ++ xs.map a.eval ++ #[])).run P w = _
  rw [fn_enter hf]; simp
 refine wpList_plain hg fun K hK => ?_
 unfold Oper.wp
 rw [he,Oper.upon_enter]
 refine hc.mono fun e w' hr => ?_
 obtain ⟨ch,rfl,h⟩ := hk e w' hr
 exact h
theorem hand_defer {ops : Array Oper} {o : Oper} {rest : List Oper} (hg : o.guard = none) {x : Operand} {ts : Array TypeId} (ho : o.op = .defer { callee := .value x,args := #[],argTypes := ts }) {f : FuncId} {cap : Array Value} (hx : a.eval x = .func (.func f) #[] cap)
  (hk : wpList P ops Q rest ({ a with defers := { target := .fn (.func f) cap,args := #[] } :: a.defers }.put o.dst undef) w) : wpList P ops Q (o :: rest) a w := by
 refine wpList_plain hg fun K hK => ?_
 obtain ⟨dst,op,type,pos,after,guard⟩ := o
 simp only at ho; subst ho
 unfold Oper.wp execOp
 simp only [resolve,hx,Sem.run_bind,Sem.run_pure,Result.andThen_ok,Oper.upon]
 have h2 := hK _ _ hk
 simpa [Deferred.ofValue] using h2
end
theorem run_recover {ev : Operand → Value} {o : Oper} {ts : Array TypeId} (ho : o.op = .call { callee := .builtin .recover,args := #[],argTypes := ts }) (P : Program) (w : World) : (execOp ev o).run P w = .ok .recover w := by
 obtain ⟨dst,op,type,pos,after,guard⟩ := o
 simp only at ho; subst ho
 rfl
theorem r23_0 {Q : Exit → Act → List Frame → World → Prop} {a : Act} {cs : List Frame} {w : World} (h : match recoverD cs with
  | some (v,cs') => Q .normal (a.put (some 6) v) cs' w
  | none => Q .normal (a.put (some 6) .nilIface) cs w) : p23_0.wpS Tryd.prog Q a cs w := by
 rw [r0x_eq]
 refine wpS_region ?_
 show wpOpsS Tryd.prog #[opAt p23_0 0] Q [0] a cs w
 have hw : Region.wanted (opAt p23_0 0) (yielded #[opAt p23_0 0] a.tmps) = true := by simp only [Region.wanted,o0_0.2.1]
 simp only [wpOpsS,List.getElem?_toArray,List.getElem?_cons_zero,hw,if_true,run_recover o0_0.1,o0_0.2.2]
 cases hr : recoverD cs with
 | none => rw [hr] at h; exact h
 | some p => rw [hr] at h; exact h
section
variable {g : Gh} {H : AHeap} {w : World} {n : Nat}
abbrev ptrV (g : Gh) (n : Nat) : Value := .pointer (some ⟨g.rho n,0,none⟩)
abbrev caps (g : Gh) (n : Nat) : Array Value := #[ptrV g n,ptrV g (n + 1),ptrV g (n + 2)]
theorem inv23 (hH : HeapOK g H w) (hn : ∀ b,g.own b ≠ .res) (hl : n + 2 < g.n) {x : AV} {v : Value} (hv : VR g w x v) (ht : Triv x v) :
  Inv g ⟨[.ptr n 0,.ptr (n + 1) 0,.ptr (n + 2) 0,.tuple [],.tuple [],.tuple [],x,.tuple [],.tuple [],.tuple [],.tuple [],.tuple [],.tuple [],.tuple [],.tuple [],.tuple [],.tuple []],H⟩ (({ tmps := caps g n ++ Array.replicate (17 - (caps g n).size) undef,defers := [] } : Act).put (some 6) v) w := by
 have hi := inv_start (args := [.ptr n 0,.ptr (n + 1) 0,.ptr (n + 2) 0]) hH hn (vals := caps g n) rfl (fun i y u hy hu => by
  match i,hy,hu with
  | 0,hy,hu => cases hy; cases hu; exact ⟨.ptr _ _ (by omega),FOK.ne (by simp)⟩
  | 1,hy,hu => cases hy; cases hu; exact ⟨.ptr _ _ (by omega),FOK.ne (by simp)⟩
  | 2,hy,hu => cases hy; cases hu; exact ⟨.ptr _ _ (by omega),FOK.ne (by simp)⟩
  | k + 3,hy,hu => simp at hy) 17
 exact Inv.put (st := ⟨[.ptr n 0,.ptr (n + 1) 0,.ptr (n + 2) 0,.tuple [],.tuple [],.tuple [],.tuple [],.tuple [],.tuple [],.tuple [],.tuple [],.tuple [],.tuple [],.tuple [],.tuple [],.tuple [],.tuple []],H⟩) (d := 6) hi hv ht
theorem catch_idle (hS : EnvS Tryd.prog pf X0 XP) (hH : HeapOK g H w) (hn : ∀ b,g.own b ≠ .res) (hl : n + 2 < g.n) :
  CallsD Tryd.prog 23 (caps g n) .returning w fun e u' w' => (∃ v,e = .returned v) ∧ u' = .returning ∧ ∃ g',WF g w g' w' ∧ HeapOK g' H w' ∧ ∀ b,g'.own b ≠ .res := by
 refine callsD_of_wpS Tryd.func23 body23 fun c₀ cs hu => ?_
 rw [b23_eq,nt23]
 refine wpS_seq (r23_0 ?_)
 have hr : recoverD (c₀ :: cs) = none := by simp only [recoverD,hu]
 rw [hr]
 show Code.wpS _ _ _ _ _ _
 have hi := inv23 hH hn hl (x := .niliface) (v := .nilIface) .niliface (fun xs e => by cases e)
 refine wpS_of_wp (wp_block (wp_seq (V_wp hS k23_3 rfl hi (Nat.zero_le _) (v23_3n (fun _ => .tuple [])) ?_ (fun _ h => h.elim))))
 rintro e st1 g1 a1 w1 ⟨rfl,x1,rfl⟩ hw1 hi1 hx1
 show Code.wp Tryd.prog (.cond (.tmp 8) _ _) _ a1 w1
 refine wp_cond (Inv.bool (b := true) hi1 rfl) ?_
 rw [if_pos rfl]
 refine V_wp hS k23_4 rfl hi1 (Nat.zero_le _) (v23_4 (fun i => if i = 8 then boolD true else x1 i)) ?_ (fun _ h => h.elim)
 rintro e st2 g2 a2 w2 ⟨rfl,x2,rfl⟩ hw2 hi2 hx2
 obtain ⟨v,hv1,hv2,hv3⟩ := res_one hi2 res23 (show resV _ _ [] = some [] from rfl)
 refine ⟨hi2.defers,.returning,by cases c₀; simp_all,v,hv1,⟨v,rfl⟩,rfl,g2,hw1.trans hw2,hi2.heap,hi2.nores⟩
theorem run_assert {ev : Operand → Value} {o : Oper} {x : Operand} (ho : o.op = .typeAssert x 20 45 true) {v : Value} (hx : ev x = .iface 45 v) (w : World) : (execOp ev o).run Tryd.prog w = .ok (.value (.tuple #[v,.bool true])) w := by
 obtain ⟨dst,op,type,pos,after,guard⟩ := o
 simp only at ho; subst ho
 unfold execOp
 simp only [hx]
 kernel_rfl
theorem hand_value {P : Program} {a : Act} {Q : Exit → Act → World → Prop} {ops : Array Oper} {o : Oper} {rest : List Oper} (hg : o.guard = none) {v : Value} (he : (execOp a.eval o).run P w = .ok (.value v) w) (hk : wpList P ops Q rest (a.put o.dst v) w) : wpList P ops Q (o :: rest) a w := by
 refine wpList_plain hg fun K hK => ?_
 unfold Oper.wp
 rw [he]
 exact hK _ _ hk
abbrev stopH (H : AHeap) (n : Nat) (e p : Int) : AHeap := (((H ++ [AObj.cells [intD e,intD p]]).set n zO).set (n + 1) (nO e)).set (n + 2) (nO p)
theorem catch_pan (hS : EnvS Tryd.prog pf X0 XP) (hH : HeapOK g H w) (hn : ∀ b,g.own b ≠ .res) (hl : n + 2 < g.n) {c1 c2 c3 c4 c5 : AV} {a b e p : Int} {v : Value} (o1 : H[n]? = some (.cells [c1,c2,c3,c4,c5])) (o2 : H[n + 1]? = some (nO a)) (o3 : H[n + 2]? = some (nO b))
  (hv : VR g w (.d (.agg [.int .i64 e,.int .i64 p])) v) :
  CallsD Tryd.prog 23 (caps g n) (.panicking [{ v := .iface 45 v,recovered := false }]) w fun z u' w' => (∃ v,z = .returned v) ∧ settle u' = .returning ∧ ∃ g',WF g w g' w' ∧ HeapOK g' (stopH H n e p) w' ∧ ∀ b,g'.own b ≠ .res := by
 refine callsD_of_wpS Tryd.func23 body23 fun c₀ cs hu => ?_
 rw [b23_eq,nt23]
 refine wpS_seq (r23_0 ?_)
 have hr : recoverD (c₀ :: cs) = some (.iface 45 v,{ c₀ with mode := .panicking [{ v := .iface 45 v,recovered := true }] } :: cs) := by simp only [recoverD,hu]
 rw [hr]
 show Code.wpS _ _ _ _ _ _
 have hnl : H.length = g.n := hH.n.symm
 have hi := inv23 hH hn hl (x := .iface 45 (.d (.agg [.int .i64 e,.int .i64 p]))) (v := .iface 45 v) (.iface _ _ _ hv (Triv.d _ _)) (fun xs e => by cases e)
 refine wpS_of_wp (wp_block (wp_seq (V_wp hS k23_3 rfl hi (Nat.zero_le _) (v23_3p (fun _ => .tuple [])) ?_ (fun _ h => h.elim))))
 rintro z st1 g1 a1 w1 ⟨rfl,x1,rfl⟩ hw1 hi1 hx1
 show Code.wp Tryd.prog (.cond (.tmp 8) _ _) _ a1 w1
 refine wp_cond (Inv.bool (b := false) hi1 rfl) ?_
 rw [if_neg (by simp)]
 have h6 := (slot_get hi1 6).1
 rw [show (St.T _).getD 6 .undef = .iface 45 (.d (.agg [.int .i64 e,.int .i64 p])) from rfl] at h6
 have h6' : a1.eval (.tmp 6) = a1.tmps.getD 6 undef := rfl
 generalize a1.tmps.getD 6 undef = u6 at h6 h6'
 cases h6 with
 | iface _ _ v6 hv6 ht6 =>
 rw [r5x_eq]
 refine wp_seq (wp_region_list (hand_value o5_0.2.1 (run_assert o5_0.1 h6' w1) ?_))
 rw [o5_0.2.2]
 have hvt : VR g1 w1 (.tuple [.d (.agg [.int .i64 e,.int .i64 p]),boolD true]) (.tuple #[v6,.bool true]) := by
  refine .tuple _ _ rfl (fun i c u hc hu => ?_) (fun i c u hc hu => ?_)
  ·match i,hc,hu with
   | 0,hc,hu => cases hc; cases hu; exact hv6
   | 1,hc,hu => cases hc; cases hu; exact .d _ _ (.bool _)
   | k + 2,hc,hu => simp at hc
  ·match i,hc,hu with
   | 0,hc,hu => cases hc; exact Triv.d _ _
   | 1,hc,hu => cases hc; exact Triv.d _ _
   | k + 2,hc,hu => simp at hc
 have hi2 := hi1.put (d := 9) hvt (fun xs e => by cases e)
 refine list_sound (lim := 0) (hS.e 0) _ _ c5_x hi2 (Nat.zero_le _) (show runOps _ _ _ _ = some ⟨[.ptr n 0,.ptr (n + 1) 0,.ptr (n + 2) 0,x1 3,x1 4,x1 5,.iface 45 (.d (.agg [.int .i64 e,.int .i64 p])),x1 7,boolD false,.tuple [.d (.agg [.int .i64 e,.int .i64 p]),boolD true],boolD true,.d (.agg [.int .i64 e,.int .i64 p]),x1 12,x1 13,x1 14,x1 15,x1 16],H⟩ from rfl) ?_
 intro g3 a3 w3 hw3 hi3 hx3
 show Code.wp Tryd.prog (.cond (.tmp 10) _ _) _ a3 w3
 refine wp_cond (Inv.bool (b := true) hi3 rfl) ?_
 rw [if_pos rfl]
 refine wp_seq (V_wp hS k23_6 rfl hi3 (Nat.zero_le _) (v23_6 (fun i => if i = 6 then .iface 45 (.d (.agg [.int .i64 e,.int .i64 p])) else if i = 8 then boolD false else if i = 9 then .tuple [.d (.agg [.int .i64 e,.int .i64 p]),boolD true] else if i = 10 then boolD true else x1 i) (Nat.zero_le _)) ?_ (fun _ h => h.elim))
 rintro z st4 g4 a4 w4 ⟨rfl,x4,rfl⟩ hw4 hi4 hx4
 show Code.wp Tryd.prog p23_7 _ a4 w4
 have more : ∀ {i : Nat} {o : AObj},H[i]? = some o → (H ++ [AObj.cells [intD e,intD p]])[i]? = some o := fun h => by rw [List.getElem?_append_left (List.getElem?_eq_some_iff.1 h).1]; exact h
 refine V_wp hS k23_7 rfl hi4 (Nat.zero_le _) (v23_7 x4 (more o1) (more o2) (more o3) (show _ = some (AObj.cells [intD e,intD p]) by simp) (by omega) (Nat.zero_le _)) ?_ (fun _ h => h.elim)
 rintro z st5 g5 a5 w5 ⟨rfl,x5,rfl⟩ hw5 hi5 hx5
 obtain ⟨v,hv1,hv2,hv3⟩ := res_one hi5 res23 (show resV _ _ [] = some [] from rfl)
 exact ⟨hi5.defers,_,rfl,v,hv1,⟨v,rfl⟩,rfl,g5,((hw1.trans hw3).trans hw4).trans hw5,hi5.heap,hi5.nores⟩
end
end Go.Proofs.YtmhmjlfajlpabaaDoor
set_option maxHeartbeats 1000000
set_option linter.unusedVariables false
namespace Go.Proofs.YtmhmjlfajlpabaaDoor
open Go Go.Abs Go.Proofs Go.RowKit Go.Lib
def DRes (g0 : Gh) (w0 : World) (H0 : AHeap) (s : Tx) (e : Ending) (w' : World) : Prop :=
 ∃ v g',e = .returned v ∧ WF g0 w0 g' w' ∧ HeapOK g' H0 w' ∧ VR g' w' (decodeV (decodeS s)) v
abbrev dcl (c : Array Value) : Deferred := { target := .fn (.func 23) c,args := #[] }
def Gh.unres (g : Gh) : Gh := g.relabel .res .mine
theorem wf_unres (g : Gh) (w : World) : WF g w (Gh.unres g) w where
 os := rfl
 tape := rfl
 output := rfl
 size := Nat.le_refl _
 idle x _ ho := by
  have : g.own x ≠ .res := by rcases ho with h | h <;> rw [h] <;> simp
  simp [Gh.unres,Gh.relabel,this]
 stays b i hi := ⟨hi,rfl⟩
 n := Nat.le_refl _
 rho _ _ := rfl
 out x hx := by
  simp only [Gh.unres,Gh.relabel] at hx
  split at hx
  ·cases hx
  ·exact hx
 mine x hx := by simp [Gh.unres,Gh.relabel,hx]
theorem heap_unres {g : Gh} {H : AHeap} {w : World} (h : HeapOK g H w) : HeapOK (Gh.unres g) H w where
 n := h.n
 own r hr ha := by
  obtain ⟨h1,h2⟩ := h.own r hr ha
  exact ⟨by simp [Gh.unres,Gh.relabel,h1],h2⟩
 obj r o ho := by
  have hr : r < g.n := by rw [h.n]; exact (List.getElem?_eq_some_iff.1 ho).1
  exact (h.obj r o ho).keep (wf_unres g w) hr (fun _ => rfl) (fun j a v hf => hf.keep fun x hx => ⟨by simp [Gh.unres,Gh.relabel,hx],rfl,fun cs e fr hh hz => ⟨cs,fr,hh,rfl,hz⟩⟩)
 new x hx := by
  obtain ⟨h1,h2⟩ := h.new x hx
  exact ⟨by simp [Gh.unres,Gh.relabel,h1],h2⟩
 glob n cs hn := (wf_unres g w).vr (h.glob n cs hn)
theorem no_unres (g : Gh) (b : Nat) : (Gh.unres g).own b ≠ .res := by
 simp only [Gh.unres,Gh.relabel]
 split
 ·simp
 ·assumption
theorem Ext.get {lim : Nat} {H H' : AHeap} (h : Ext lim H H') {i : Nat} (hi : i < lim) : H'[i]? = H[i]? := by
 have := congrArg (fun l => l[i]?) h.2
 simpa only [List.getElem?_take,if_pos hi] using this
section
variable {g0 : Gh} {w0 : World} {H0 : AHeap} {s : Tx}
theorem dec_fin [Dfr] (h0 : HeapOK g0 H0 w0) {g : Gh} {st : St} {a : Act} {w : World} (hw : WF g0 w0 g w) (hi : Inv g st a w) {j : D} {e p : Int} (hr : resV st.T st.H [.cell 2 true 5,.cell 3 false 1,.cell 4 false 1] = some [.d j,intD e,intD p]) (hx : Ext H0.length H0 st.H)
  (hd : decodeV (decodeS s) = .tuple [.d j,intD e,intD p]) : ∃ v,(results Tryd.f10 a.tmps).run Tryd.prog w = .ok v w ∧ DRes g0 w0 H0 s (.returned v) w := by
 obtain ⟨v,hv1,hv2,_⟩ := res_one hi res10 hr
 refine ⟨v,hv1,v,g.cut w H0.length,rfl,wf_cut hw h0.n,heap_cut h0 hi.heap hx,?_⟩
 rw [hd]
 exact freeze_vr hi.heap hv2 rfl
theorem invoke23 (c : Array Value) (w : World) : (invoke (.fn (.func 23) c) #[]).run Tryd.prog w = .ok (.enter 23 c) w := by
 have hf : FnOK Tryd.prog 23 := ⟨_,Tryd.func23,by kernel_rfl,by kernel_rfl⟩
 have := fn_enter hf (#[] ++ c) w
 show (callFunc 23 (#[] ++ c)).run Tryd.prog w = _
 rw [this]; simp
theorem caps_move {g g' : Gh} {w w' : World} {n : Nat} (hw : WF g w g' w') (hl : n + 2 < g.n) : caps g' n = caps g n := by
 simp only [caps,ptrV,hw.rho n (by omega),hw.rho (n + 1) (by omega),hw.rho (n + 2) hl]
theorem Inv.boolD' [Dfr] {g : Gh} {st : St} {a : Act} {w : World} (h : Inv g st a w) {i : Nat} {b : Bool} (hT : st.T.getD i .undef = boolD b) : a.eval (.tmp i) = .bool b := by
 have := (slot_get h i).1
 rw [hT] at this
 show a.tmps.getD i undef = _
 generalize a.tmps.getD i undef = v at this
 cases this with
 | d _ _ h => cases h; rfl
theorem Inv.ptrD [Dfr] {g : Gh} {st : St} {a : Act} {w : World} (h : Inv g st a w) {i n : Nat} (hT : st.T.getD i .undef = .ptr n 0) : a.eval (.tmp i) = .pointer (some ⟨g.rho n,0,none⟩) := by
 have := (slot_get h i).1
 rw [hT] at this
 show a.tmps.getD i undef = _
 generalize a.tmps.getD i undef = v at this
 cases this; rfl
theorem Inv.numD [Dfr] {g : Gh} {st : St} {a : Act} {w : World} (h : Inv g st a w) {i : Nat} {k : IntKind} {n : Int} (hT : st.T.getD i .undef = .d (.int k n)) : a.eval (.tmp i) = .int k n := by
 have := (slot_get h i).1
 rw [hT] at this
 show a.tmps.getD i undef = _
 generalize a.tmps.getD i undef = v at this
 cases this with
 | d _ _ h => cases h; rfl
theorem Inv.funcD [Dfr] {g : Gh} {st : St} {a : Act} {w : World} (h : Inv g st a w) {i n : Nat} (hT : st.T.getD i .undef = .func (.func 23) [.ptr n 0,.ptr (n + 1) 0,.ptr (n + 2) 0]) : a.eval (.tmp i) = .func (.func 23) #[] (caps g n) := by
 have := (slot_get h i).1
 rw [hT] at this
 show a.tmps.getD i undef = _
 generalize a.tmps.getD i undef = v at this
 cases this with
 | func _ _ vs hl h ht =>
  congr 1
  apply Array.ext
  ·simpa using hl.symm
  ·intro k hk1 hk2
   simp only [caps,List.size_toArray,List.length_cons,List.length_nil] at hk2
   have h1 : vs[k]? = some vs[k] := Array.getElem?_eq_getElem hk1
   match k,hk2 with
   | 0,_ => have := h 0 _ _ rfl h1; generalize vs[0] = u at this; cases this; rfl
   | 1,_ => have := h 1 _ _ rfl h1; generalize vs[1] = u at this; cases this; rfl
   | 2,_ => have := h 2 _ _ rfl h1; generalize vs[2] = u at this; cases this; rfl
abbrev tail44 : List AV := List.replicate 44 .undef
theorem dec_stop [Dfr] (hS : EnvS Tryd.prog pf X0 XP) (h0 : HeapOK g0 H0 w0) {c : Array Value} (hd : Dfr.ds = [dcl c]) {g : Gh} {T : List AV} {a : Act} {w : World} {c1 c2 c3 c4 c5 : AV} {a1 b1 : Int} {o : AObj} (hw : WF g0 w0 g w) (hc : caps g H0.length = c)
  (hi : Inv g ⟨T,H0 ++ [.cells [c1,c2,c3,c4,c5],nO a1,nO b1,o]⟩ a w) (hT : T.length = 49) (hT2 : T[2]? = some (.ptr H0.length 0)) (hT3 : T[3]? = some (.ptr (H0.length + 1) 0)) (hT4 : T[4]? = some (.ptr (H0.length + 2) 0))
  {g' : Gh} {H' : AHeap} {w' : World} {v : Value} {e p : Nat} (hw' : WF g w g' w') (hx : Ext (H0.length + 3) (H0 ++ [.cells [c1,c2,c3,c4,c5],nO a1,nO b1,o]) H') (hH' : HeapOK g' H' w') (hv : VR g' w' (.d (.agg [.int .i64 e,.int .i64 p])) v) (hds : decodeS s = .error (e,p)) :
  Leaves Tryd.prog Tryd.f10 a.tmps (DRes g0 w0 H0 s) a.defers (.panicking [{ v := .iface 45 v,recovered := false }]) w' := by
 obtain ⟨K,kk,k1,k2,k3,k4,_⟩ := four H0
 rw [← kk] at hi hx
 have hgn : g.n = H0.length + 4 := by rw [hi.heap.n,kk]; simp
 have hw1 := hw'.trans (wf_unres g' w')
 have hH1 := heap_unres hH'
 have hgn1 : H0.length + 2 < (Gh.unres g').n := Nat.lt_of_lt_of_le (by omega) hw1.n
 rw [hi.defers,hd]
 have o1 := (Ext.get hx (show H0.length < H0.length + 3 by omega)).trans (k1 _ _ _ _)
 have o2 := (Ext.get hx (show H0.length + 1 < H0.length + 3 by omega)).trans (k2 _ _ _ _)
 have o3 := (Ext.get hx (show H0.length + 2 < H0.length + 3 by omega)).trans (k3 _ _ _ _)
 have hlen := hx.1
 rw [kk] at hlen
 simp only [List.length_append,List.length_cons,List.length_nil] at hlen
 refine leaves_cons (f := 23) (args := c) (by simp) (invoke23 c _) ?_
 rw [← hc,← caps_move hw1 (by omega)]
 refine (catch_pan hS hH1 (no_unres g') hgn1 o1 o2 o3 ((wf_unres g' w').vr hv)).mono ?_
 rintro z u' w2 ⟨⟨v2,rfl⟩,hu,g2,hw2,hH2,hn2⟩
 show Leaves Tryd.prog Tryd.f10 a.tmps (DRes g0 w0 H0 s) [] (settle u') w2
 rw [hu]
 have hwk := Inv.weak hi (T := [.undef,.undef,.ptr H0.length 0,.ptr (H0.length + 1) 0,.ptr (H0.length + 2) 0] ++ tail44) (by rw [hT]; rfl) fun i x hx => by
  match i,hx with
  | 0,hx => cases hx; exact .inl rfl
  | 1,hx => cases hx; exact .inl rfl
  | 2,hx => cases hx; exact .inr hT2
  | 3,hx => cases hx; exact .inr hT3
  | 4,hx => cases hx; exact .inr hT4
  | k + 5,hx =>
   have : tail44[k]? = some x := hx
   exact .inl (List.eq_of_mem_replicate (List.mem_of_getElem? this))
 have him := Inv.move hwk (hw1.trans hw2) hH2 hn2 fun x hx xs => by
  rcases List.mem_append.1 hx with h | h
  ·simp only [List.mem_cons,List.not_mem_nil,or_false] at h
   rcases h with rfl | rfl | rfl | rfl | rfl <;> simp
  ·rw [List.eq_of_mem_replicate h]; simp
 have s1 : (stopH H' H0.length e p)[H0.length]? = some zO := by
  unfold stopH
  rw [List.getElem?_set_ne (by omega),List.getElem?_set_ne (by omega),List.getElem?_set_self (by simp; omega)]
 have s2 : (stopH H' H0.length e p)[H0.length + 1]? = some (nO e) := by
  unfold stopH
  rw [List.getElem?_set_ne (by omega),List.getElem?_set_self (by simp; omega)]
 have s3 : (stopH H' H0.length e p)[H0.length + 2]? = some (nO p) := by
  unfold stopH
  rw [List.getElem?_set_self (by simp; omega)]
 refine dec_fin h0 (hw.trans (hw1.trans hw2)) him (j := J.zero.d) (e := e) (p := p) ?_ ?_ (by rw [hds])
 ·simp only [resV,List.cons_append,List.nil_append,List.getD_cons_succ,List.getD_cons_zero,s1,s2,s3]
  rfl
 ·refine ⟨by simp [stopH]; omega,?_⟩
  have e1 : (stopH H' H0.length e p).take H0.length = H'.take H0.length := by
   unfold stopH
   rw [List.take_set_of_le (by omega),List.take_set_of_le (by omega),List.take_set_of_le (by omega),List.take_append_of_le_length (by omega)]
  have e2 := (Ext.less hx (show H0.length ≤ H0.length + 3 by omega)).2
  rw [e1,e2,kk,List.take_append_of_le_length (Nat.le_refl _)]
end
end Go.Proofs.YtmhmjlfajlpabaaDoor
set_option maxHeartbeats 2000000
set_option linter.unusedVariables false
namespace Go.Proofs.YtmhmjlfajlpabaaDoor
open Go Go.Abs Go.Proofs Go.RowKit Go.Lib
abbrev D5 (n : Nat) (x : Nat → AV) : List AV := [x 0,x 1,.ptr n 0,.ptr (n + 1) 0,.ptr (n + 2) 0,.ptr (n + 3) 0,x 6,x 7,x 8,x 9,x 10,x 11,x 12,x 13,x 14,x 15,x 16,x 17,x 18,x 19,x 20,x 21,x 22,x 23,x 24,x 25,x 26,x 27,x 28,x 29,x 30,x 31,x 32,x 33,x 34,x 35,x 36,x 37,x 38,x 39,x 40,x 41,x 42,x 43,x 44,x 45,x 46,x 47,x 48]
noncomputable abbrev restC : Code := .seq p10_8 (.seq p10_9 (.seq p10_10 (.seq (.seq p10_11 (.cond (.tmp 40) p10_12 .skip)) (.seq p10_13 .ret))))
section
variable {g0 : Gh} {w0 : World} {H0 : AHeap} {s : Tx}
theorem Ext4 {H0 K : AHeap} {lim : Nat} (h : lim ≤ H0.length) (l : List AObj) : Ext lim H0 (H0 ++ l) := ⟨by simp,List.take_append_of_le_length h⟩
theorem dec_rest [Dfr] (hS : EnvS Tryd.prog pf X0 XP) (h0 : HeapOK g0 H0 w0) {c : Array Value} (hd : Dfr.ds = [dcl c]) (hs : s.length ≤ 16384) (hbr : ¬ 0 ≤ brokenN s) {g : Gh} {a : Act} {w : World} {x : Nat → AV} (hw : WF g0 w0 g w) (hc : caps g H0.length = c)
  (hi : Inv g ⟨D5 H0.length x,H0 ++ [zO,nO 0,nO 0,rdO s (0 : Nat)]⟩ a w) : restC.wp Tryd.prog (bodyPostD Tryd.prog Tryd.f10 (DRes g0 w0 H0 s)) a w := by
 have hll : ∀ (a b c d : AObj),H0.length ≤ (H0 ++ [a,b,c,d]).length := fun _ _ _ _ => by simp
 have hll3 : ∀ (a b c d : AObj),H0.length + 3 ≤ (H0 ++ [a,b,c,d]).length := fun _ _ _ _ => by simp
 have hgn : ∀ {g : Gh} {T : List AV} {a b c d : AObj} {ac : Act} {w : World},Inv g ⟨T,H0 ++ [a,b,c,d]⟩ ac w → H0.length + 2 < g.n := fun h => by rw [h.heap.n]; simp
 refine wp_seq (V_wp hS k10_8 rfl hi (hll _ _ _ _) (v10_8 x (by omega) hs) ?_ (fun _ h => h.elim))
 rintro z st1 g1 a1 w1 ⟨rfl,x1,rfl⟩ hw1 hi1 hx1
 have hc1 := (caps_move hw1 (hgn hi)).trans hc
 have hb0 := (blanks_le' s 0).2 (Nat.zero_le _)
 generalize hp : blanksS s 0 = p at hi1 hb0
 have hval := (value_all (2 * s.length + 3)) (H0.length + 3) (H0 ++ [zO,nO 0,nO 0,rdO s p]) (H0.length + 3) s p 1 (by rw [List.getElem?_append_right (by omega)]; simp) (Nat.le_refl _) hs hb0 (by omega) (by omega)
 have hds : decodeS s = match valueS s (2 * s.length + 3) 1 p with
  | .error e => .error e
  | .ok (j,q) => if blanksS s q < s.length then .error (16,blanksS s q) else .ok (orderJ j) := by
  unfold decodeS
  rw [if_neg (by omega),if_neg hbr,hp]
  cases valueS s (2 * s.length + 3) 1 p with
  | error e => rfl
  | ok y => rfl
 show Code.wp Tryd.prog (.seq p10_9 _) _ a1 w1
 cases hv : valueS s (2 * s.length + 3) 1 p with
 | error er =>
  rw [hv] at hds
  have hP := hval.noJ hv
  unfold EvP at hP
  obtain ⟨k0,hP⟩ := hP
  rw [r9x_eq]
  refine wp_seq (wp_region_list ?_)
  refine list_step (lim := H0.length) (E := X0 0) c9_0 (hS.e 0) hi1 (hll _ _ _ _) (show stepOp _ _ _ _ = some ⟨(D5 H0.length x1).set 27 (.ptr (H0.length + 3) 0),_⟩ from rfl) ?_
  intro g2 a2 w2 hw2 hi2 hx2
  obtain ⟨hf,hcall⟩ := hS.p k0 25 (H0.length + 3) [.ptr (H0.length + 3) 0,intD ((1 : Nat) : Int)] _ _ _ (hP k0 (Nat.le_refl _)) (hll3 _ _ _ _)
  have hvals : (#[Operand.tmp 27,.const (.int .i64 1)].map a2.eval) = #[a2.eval (.tmp 27),.int .i64 1] := by simp [Act.eval]
  refine hand_panic o9_1.2 o9_1.1 hf (hcall (#[Operand.tmp 27,.const (.int .i64 1)].map a2.eval) g2 w2 hi2.heap hi2.nores (by simp) ?_) ?_
  ·rw [hvals,Inv.ptrD (n := H0.length + 3) hi2 rfl]
   intro i y u hy hu
   match i,hy,hu with
   | 0,hy,hu => cases hy; cases hu; exact ⟨.ptr _ _ (by rw [hi2.heap.n]; simp),fun xs e => by cases e⟩
   | 1,hy,hu => cases hy; cases hu; exact ⟨.d _ _ (.int _ _),Triv.d _ _⟩
   | k + 2,hy,hu => simp at hy
  ·rintro e w' ⟨v,g',H',rfl,hw',hx',hH',hv'⟩
   refine ⟨_,rfl,?_⟩
   have hc2 := (caps_move hw2 (hgn hi1)).trans hc1
   exact dec_stop hS h0 hd ((hw.trans hw1).trans hw2) hc2 hi2 rfl rfl rfl rfl hw' hx' hH' hv' hds
 | ok y =>
  obtain ⟨j,q⟩ := y
  rw [hv] at hds
  simp only at hds
  have hvl := value_lt hv
  have hbq := (blanks_le' s q).2 hvl.2
  obtain ⟨⟨no,hno⟩,hnw⟩ := value_ord hv
  refine wp_seq (V_wp hS k10_9 rfl hi1 (hll _ _ _ _) (v10_9 x1 (Nat.le_refl _) hs hb0 hv) ?_ (fun _ h => h.elim))
  rintro z st2 g2 a2 w2 ⟨rfl,x2,rfl⟩ hw2 hi2 hx2
  have hc2 := (caps_move hw2 (hgn hi1)).trans hc1
  show Code.wp Tryd.prog (.seq p10_10 _) _ a2 w2
  refine wp_seq (V_wp hS k10_10 rfl hi2 (hll _ _ _ _) (v10_10 x2 (by omega) hs hvl.2) ?_ (fun _ h => h.elim))
  rintro z st3 g3 a3 w3 ⟨rfl,x3,rfl⟩ hw3 hi3 hx3
  have hc3 := (caps_move hw3 (hgn hi2)).trans hc2
  generalize hbs : blanksS s q = q' at hi3 hds hbq
  show Code.wp Tryd.prog (.seq (.seq p10_11 _) _) _ a3 w3
  refine wp_seq (wp_seq (V_wp hS k10_11 rfl hi3 (hll _ _ _ _) (v10_11 (lim := H0.length) x3) ?_ (fun _ h => h.elim)))
  rintro z st4 g4 a4 w4 ⟨rfl,x,rfl⟩ hw4 hi4 hx4
  have hc4 := (caps_move hw4 (hgn hi3)).trans hc3
  show Code.wp Tryd.prog (.cond (.tmp 40) _ _) _ a4 w4
  refine wp_cond (Inv.boolD' (b := decide (q' < s.length)) hi4 rfl) ?_
  by_cases hq : q' < s.length
  ·rw [if_pos hq] at hds
   rw [decide_eq_true hq,if_pos rfl]
   have hP := stop_ev (pr := prims0) (pP := primsP) (H0.length + 3) (H0 ++ [jO j,nO 0,nO 0,rdO s q']) (H0.length + 3) 16 q'
   unfold EvP at hP
   obtain ⟨k0,hP⟩ := hP
   rw [r12x_eq]
   refine wp_region_list ?_
   have gk : (H0 ++ [jO j,nO 0,nO 0,rdO s q'])[H0.length + 3]? = some (rdO s q') := by rw [List.getElem?_append_right (by omega)]; simp
   refine list_step (lim := H0.length) (E := X0 0) c12_0 (hS.e 0) hi4 (hll _ _ _ _) (st' := ⟨[x 0,x 1,.ptr H0.length 0,.ptr (H0.length + 1) 0,.ptr (H0.length + 2) 0,.ptr (H0.length + 3) 0,x 6,x 7,x 8,x 9,x 10,x 11,x 12,x 13,x 14,x 15,x 16,x 17,x 18,x 19,x 20,x 21,x 22,x 23,x 24,x 25,x 26,x 27,x 28,x 29,x 30,x 31,x 32,x 33,x 34,x 35,x 36,x 37,x 38,x 39,boolD (decide (q' < s.length)),.ptr (H0.length + 3) 0,x 42,x 43,x 44,x 45,x 46,x 47,x 48],_⟩) rfl ?_
   intro g5 a5 w5 hw5 hi5 hx5
   refine list_step (lim := H0.length) (E := X0 0) c12_1 (hS.e 0) hi5 (hll _ _ _ _) (st' := ⟨[x 0,x 1,.ptr H0.length 0,.ptr (H0.length + 1) 0,.ptr (H0.length + 2) 0,.ptr (H0.length + 3) 0,x 6,x 7,x 8,x 9,x 10,x 11,x 12,x 13,x 14,x 15,x 16,x 17,x 18,x 19,x 20,x 21,x 22,x 23,x 24,x 25,x 26,x 27,x 28,x 29,x 30,x 31,x 32,x 33,x 34,x 35,x 36,x 37,x 38,x 39,boolD (decide (q' < s.length)),.ptr (H0.length + 3) 0,.ptr (H0.length + 3) 0,x 43,x 44,x 45,x 46,x 47,x 48],_⟩) rfl ?_
   intro g6 a6 w6 hw6 hi6 hx6
   refine list_step (lim := H0.length) (E := X0 0) c12_2 (hS.e 0) hi6 (hll _ _ _ _) (st' := ⟨[x 0,x 1,.ptr H0.length 0,.ptr (H0.length + 1) 0,.ptr (H0.length + 2) 0,.ptr (H0.length + 3) 0,x 6,x 7,x 8,x 9,x 10,x 11,x 12,x 13,x 14,x 15,x 16,x 17,x 18,x 19,x 20,x 21,x 22,x 23,x 24,x 25,x 26,x 27,x 28,x 29,x 30,x 31,x 32,x 33,x 34,x 35,x 36,x 37,x 38,x 39,boolD (decide (q' < s.length)),.ptr (H0.length + 3) 0,.ptr (H0.length + 3) 0,.ptr (H0.length + 3) 0,x 44,x 45,x 46,x 47,x 48],_⟩) rfl ?_
   intro g7 a7 w7 hw7 hi7 hx7
   refine list_step (lim := H0.length) (E := X0 0) c12_3 (hS.e 0) hi7 (hll _ _ _ _) (st' := ⟨[x 0,x 1,.ptr H0.length 0,.ptr (H0.length + 1) 0,.ptr (H0.length + 2) 0,.ptr (H0.length + 3) 0,x 6,x 7,x 8,x 9,x 10,x 11,x 12,x 13,x 14,x 15,x 16,x 17,x 18,x 19,x 20,x 21,x 22,x 23,x 24,x 25,x 26,x 27,x 28,x 29,x 30,x 31,x 32,x 33,x 34,x 35,x 36,x 37,x 38,x 39,boolD (decide (q' < s.length)),.ptr (H0.length + 3) 0,.ptr (H0.length + 3) 0,.ptr (H0.length + 3) 0,.ptr (H0.length + 3) 1,x 45,x 46,x 47,x 48],_⟩) rfl ?_
   intro g8 a8 w8 hw8 hi8 hx8
   refine list_step (lim := H0.length) (E := X0 0) c12_4 (hS.e 0) hi8 (hll _ _ _ _) (st' := ⟨[x 0,x 1,.ptr H0.length 0,.ptr (H0.length + 1) 0,.ptr (H0.length + 2) 0,.ptr (H0.length + 3) 0,x 6,x 7,x 8,x 9,x 10,x 11,x 12,x 13,x 14,x 15,x 16,x 17,x 18,x 19,x 20,x 21,x 22,x 23,x 24,x 25,x 26,x 27,x 28,x 29,x 30,x 31,x 32,x 33,x 34,x 35,x 36,x 37,x 38,x 39,boolD (decide (q' < s.length)),.ptr (H0.length + 3) 0,.ptr (H0.length + 3) 0,.ptr (H0.length + 3) 0,.ptr (H0.length + 3) 1,intD q',x 46,x 47,x 48],H0 ++ [jO j,nO 0,nO 0,rdO s q']⟩) ?_ ?_
   ·simp only [zz,simprocAttr,gk]
   intro g9 a9 w9 hw9 hi9 hx9
   obtain ⟨hf,hcall⟩ := hS.p k0 26 (H0.length + 3) [.ptr (H0.length + 3) 0,intD ((16 : Nat) : Int),intD q'] _ _ _ (hP k0 (Nat.le_refl _)) (hll3 _ _ _ _)
   have hvals : (#[Operand.tmp 41,.const (.int .i64 16),.tmp 45].map a9.eval) = #[a9.eval (.tmp 41),.int .i64 16,a9.eval (.tmp 45)] := by simp [Act.eval]
   have hw49 := ((((hw5.trans hw6).trans hw7).trans hw8).trans hw9)
   have hc9 := (caps_move hw49 (hgn hi4)).trans hc4
   refine hand_panic o12_5.2 o12_5.1 hf (hcall (#[Operand.tmp 41,.const (.int .i64 16),.tmp 45].map a9.eval) g9 w9 hi9.heap hi9.nores (by simp) ?_) ?_
   ·rw [hvals,Inv.ptrD (n := H0.length + 3) hi9 rfl,Inv.numD (k := .i64) (n := q') hi9 rfl]
    intro i y u hy hu
    match i,hy,hu with
    | 0,hy,hu => cases hy; cases hu; exact ⟨.ptr _ _ (by rw [hi9.heap.n]; simp),fun xs e => by cases e⟩
    | 1,hy,hu => cases hy; cases hu; exact ⟨.d _ _ (.int _ _),Triv.d _ _⟩
    | 2,hy,hu => cases hy; cases hu; exact ⟨.d _ _ (.int _ _),Triv.d _ _⟩
    | k + 3,hy,hu => simp at hy
   ·rintro e w' ⟨v,g',H',rfl,hw',hx',hH',hv'⟩
    refine ⟨_,rfl,?_⟩
    exact dec_stop hS h0 hd (((((hw.trans hw1).trans hw2).trans hw3).trans hw4).trans hw49) hc9 hi9 rfl rfl rfl rfl hw' hx' hH' hv' hds
  ·rw [if_neg hq] at hds
   rw [decide_eq_false hq,if_neg (by simp)]
   refine wp_skip ?_
   show Code.wp Tryd.prog (.seq p10_13 .ret) _ a4 w4
   refine wp_seq (V_wp hS k10_13 rfl hi4 (hll _ _ _ _) (v10_13 (fun i => if i = 40 then boolD (decide (q' < s.length)) else x i) (Nat.le_refl _) hno (by omega)) ?_ (fun _ h => h.elim))
   rintro z st5 g5 a5 w5 ⟨rfl,x5,rfl⟩ hw5 hi5 hx5
   have hc5 := (caps_move hw5 (hgn hi4)).trans hc4
   refine wp_ret ?_
   show Leaves Tryd.prog Tryd.f10 a5.tmps (DRes g0 w0 H0 s) a5.defers .returning w5
   rw [hi5.defers,hd]
   refine leaves_cons (f := 23) (args := c) (by simp) (invoke23 c _) ?_
   rw [← hc5]
   refine (catch_idle hS hi5.heap hi5.nores (hgn hi5)).mono ?_
   rintro z u' w6 ⟨⟨v2,rfl⟩,rfl,g6,hw6,hH6,hn6⟩
   show Leaves Tryd.prog Tryd.f10 a5.tmps (DRes g0 w0 H0 s) [] .returning w6
   have hwk := Inv.weak hi5 (T := [.undef,.undef,.ptr H0.length 0,.ptr (H0.length + 1) 0,.ptr (H0.length + 2) 0] ++ tail44) rfl fun i x hx => by
    match i,hx with
    | 0,hx => cases hx; exact .inl rfl
    | 1,hx => cases hx; exact .inl rfl
    | 2,hx => cases hx; exact .inr rfl
    | 3,hx => cases hx; exact .inr rfl
    | 4,hx => cases hx; exact .inr rfl
    | k + 5,hx =>
     have : tail44[k]? = some x := hx
     exact .inl (List.eq_of_mem_replicate (List.mem_of_getElem? this))
   have him := Inv.move hwk hw6 hH6 hn6 fun x hx xs => by
    rcases List.mem_append.1 hx with h | h
    ·simp only [List.mem_cons,List.not_mem_nil,or_false] at h
     rcases h with rfl | rfl | rfl | rfl | rfl <;> simp
    ·rw [List.eq_of_mem_replicate h]; simp
   refine dec_fin h0 (((((hw.trans hw1).trans hw2).trans hw3).trans hw4).trans hw5 |>.trans hw6) him (j := (orderJ j).d) (e := 0) (p := 0) ?_ (Ext4 (K := H0) (Nat.le_refl _) _) (by rw [hds])
   obtain ⟨K,kk,k1,k2,k3,k4,_⟩ := four H0
   rw [← kk,jd]
   simp only [resV,List.cons_append,List.nil_append,List.getD_cons_succ,List.getD_cons_zero,k1,k2,k3]
   rfl
theorem dec_ret (h0 : HeapOK g0 H0 w0) {g : Gh} {st : St} {a : Act} {w : World} (hw : WF g0 w0 g w) (hi : Inv g st a w) {j : D} {e p : Int} (hr : resV st.T st.H [.cell 2 true 5,.cell 3 false 1,.cell 4 false 1] = some [.d j,intD e,intD p]) (hx : Ext H0.length H0 st.H)
  (hd : decodeV (decodeS s) = .tuple [.d j,intD e,intD p]) : Leaves Tryd.prog Tryd.f10 a.tmps (DRes g0 w0 H0 s) a.defers .returning w := by
 rw [hi.defers]
 exact dec_fin h0 hw hi hr hx hd
theorem dec_calls (hS : EnvS Tryd.prog pf X0 XP) (h0 : HeapOK g0 H0 w0) (hn : ∀ b,g0.own b ≠ .res) {v0 : AV} (hb : bytesA H0 v0 = some s) {vals : Array Value} (hv0 : 1 = vals.size) (hv : ∀ (i : Nat) x v,[v0][i]? = some x → vals[i]? = some v → VR g0 w0 x v ∧ FOK g0 w0 (.slot i) x v) :
  Calls Tryd.prog 10 vals w0 (DRes g0 w0 H0 s) := by
 refine calls_of_wp_defers Tryd.func10 body10 ?_
 rw [nt10,b10_eq]
 have hll0 : H0.length ≤ H0.length := Nat.le_refl _
 have hll3 : ∀ (a b c : AObj),H0.length ≤ (H0 ++ [a,b,c]).length := fun _ _ _ => by simp
 have hll : ∀ (a b c d : AObj),H0.length ≤ (H0 ++ [a,b,c,d]).length := fun _ _ _ _ => by simp
 have hi0 : Inv g0 ⟨_,H0⟩ { tmps := vals ++ Array.replicate (49 - vals.size) undef,defers := [] } w0 := inv_start (args := [v0]) h0 hn hv0 hv 49
 refine wp_seq (V_wp hS k10_0 rfl hi0 hll0 (v10_0 (fun _ => .tuple [])) ?_ (fun _ h => h.elim))
 rintro z st1 g1 a1 w1 ⟨rfl,x1,rfl⟩ hw1 hi1 hx1
 show Code.wp Tryd.prog (.seq (.seq p10_1 _) _) _ a1 w1
 refine wp_seq (wp_seq (V_wp hS k10_1 rfl hi1 (hll3 _ _ _) (v10_1 (lim := H0.length) (K := H0 ++ [zO,nO 0,nO 0]) (n := H0.length) x1 hb) ?_ (fun _ h => h.elim)))
 rintro z st2 g2 a2 w2 ⟨rfl,x2,rfl⟩ hw2 hi2 hx2
 show Code.wp Tryd.prog (.cond (.tmp 9) _ _) _ a2 w2
 refine wp_cond (Inv.boolD' (b := decide (16384 < s.length)) hi2 rfl) ?_
 by_cases hs : 16384 < s.length
 ·have hds : decodeS s = .error (13,16384) := by unfold decodeS; rw [if_pos hs]
  rw [decide_eq_true hs,if_pos rfl]
  refine wp_seq (V_wp hS k10_2 rfl hi2 (hll3 _ _ _) (v10_2 (fun i => if i = 0 then v0 else if i = 9 then boolD (decide (16384 < s.length)) else x2 i) hll0) ?_ (fun _ h => h.elim))
  rintro z st3 g3 a3 w3 ⟨rfl,x3,rfl⟩ hw3 hi3 hx3
  refine wp_ret ?_
  refine dec_ret h0 ((hw1.trans hw2).trans hw3) hi3 (j := J.zero.d) (e := 13) (p := 16384) ?_ (Ext4 (K := H0) (Nat.le_refl _) _) (by rw [hds]; rfl)
  obtain ⟨K,kk,k1,k2,k3,_⟩ := three H0
  rw [← kk]
  simp only [resV,List.getD_cons_succ,List.getD_cons_zero,k1,k2,k3]
  rfl
 have hs' : s.length ≤ 16384 := by omega
 rw [decide_eq_false hs,if_neg (by simp)]
 refine wp_skip ?_
 show Code.wp Tryd.prog (.seq p10_3 _) _ a2 w2
 refine wp_seq (V_wp hS k10_3 rfl hi2 (hll3 _ _ _) (v10_3 (fun i => if i = 9 then boolD (decide (16384 < s.length)) else x2 i) hb) ?_ (fun _ h => h.elim))
 rintro z st3 g3 a3 w3 ⟨rfl,x3,rfl⟩ hw3 hi3 hx3
 show Code.wp Tryd.prog (.seq (.seq p10_4 _) _) _ a3 w3
 refine wp_seq (wp_seq (V_wp hS k10_4 rfl hi3 (hll _ _ _ _) (v10_4 (lim := H0.length) x3 hs') ?_ (fun _ h => h.elim)))
 rintro z st4 g4 a4 w4 ⟨rfl,x4,rfl⟩ hw4 hi4 hx4
 show Code.wp Tryd.prog (.seq p10_5 _) _ a4 w4
 refine wp_seq (V_wp hS k10_5 rfl hi4 (hll _ _ _ _) (v10_5 (lim := H0.length) (K := H0 ++ [zO,nO 0,nO 0,rdO s (0 : Nat)]) (n := H0.length) (b := brokenN s) x4) ?_ (fun _ h => h.elim))
 rintro z st5 g5 a5 w5 ⟨rfl,x5,rfl⟩ hw5 hi5 hx5
 show Code.wp Tryd.prog (.cond (.tmp 21) _ _) _ a5 w5
 refine wp_cond (Inv.boolD' (b := decide (brokenN s ≥ 0)) hi5 rfl) ?_
 have hw15 := (((hw1.trans hw2).trans hw3).trans hw4).trans hw5
 by_cases hbr : 0 ≤ brokenN s
 ·have hds : decodeS s = .error (10,(brokenN s).toNat) := by unfold decodeS; rw [if_neg hs,if_pos hbr]
  have hnb : ((brokenN s).toNat : Int) = brokenN s := by omega
  rw [decide_eq_true hbr,if_pos rfl]
  refine wp_seq (V_wp hS k10_6 rfl hi5 (hll _ _ _ _) (v10_6 (s := s) (fun i => if i = 21 then boolD (decide (brokenN s ≥ 0)) else x5 i) hll0) ?_ (fun _ h => h.elim))
  rintro z st6 g6 a6 w6 ⟨rfl,x6,rfl⟩ hw6 hi6 hx6
  refine wp_ret ?_
  refine dec_ret h0 (hw15.trans hw6) hi6 (j := J.zero.d) (e := 10) (p := brokenN s) ?_ (Ext4 (K := H0) (Nat.le_refl _) _) (by rw [hds]; show AV.tuple [_,_,intD ((brokenN s).toNat : Int)] = _; rw [hnb]; rfl)
  obtain ⟨K,kk,k1,k2,k3,k4,_⟩ := four H0
  rw [← kk]
  simp only [resV,List.getD_cons_succ,List.getD_cons_zero,k1,k2,k3]
  rfl
 rw [decide_eq_false hbr,if_neg (by simp)]
 refine wp_skip ?_
 show Code.wp Tryd.prog (.seq p10_7 restC) _ a5 w5
 rw [r7x_eq]
 refine wp_seq (wp_region_list ?_)
 refine list_step (lim := H0.length) (E := X0 0) c7_0 (hS.e 0) hi5 (hll _ _ _ _) (show stepOp _ _ _ _ = some ⟨(D5 H0.length fun i => if i = 6 then intD (brokenN s) else if i = 21 then boolD (decide (brokenN s ≥ 0)) else x5 i).set 24 (.func (.func 23) [.ptr H0.length 0,.ptr (H0.length + 1) 0,.ptr (H0.length + 2) 0]),_⟩ from rfl) ?_
 intro g6 a6 w6 hw6 hi6 hx6
 refine hand_defer o7_1.2.1 o7_1.1 (f := 23) (cap := caps g6 H0.length) (Inv.funcD (n := H0.length) hi6 rfl) ?_
 rw [o7_1.2.2]
 refine @dec_rest g0 w0 H0 s ⟨[dcl (caps g6 H0.length)]⟩ hS h0 (caps g6 H0.length) rfl hs' hbr g6 _ w6 (fun i => if i = 6 then intD (brokenN s) else if i = 21 then boolD (decide (brokenN s ≥ 0)) else if i = 24 then .func (.func 23) [.ptr H0.length 0,.ptr (H0.length + 1) 0,.ptr (H0.length + 2) 0] else x5 i) (hw15.trans hw6) rfl ?_
 exact @Go.Abs.Inv.mk tabs ⟨[dcl (caps g6 H0.length)]⟩ _ _ _ _ hi6.heap hi6.size hi6.tok hi6.nores (by show _ :: a6.defers = _; rw [hi6.defers]; rfl)
theorem decode_sound : FSound Tryd.prog 10 decodeF := by
 intro lim args H a H' h hlim
 unfold decodeF at h
 split at h
 ·rename_i v0
  simp only [Option.map_eq_some_iff] at h
  obtain ⟨s,hb,h⟩ := h
  simp only [Prod.mk.injEq] at h
  obtain ⟨rfl,rfl⟩ := h
  refine ⟨Ext.refl _ _,fun vals g w hH hn hv0 hv => .inl ⟨fn10,(dec_calls hS0 hH hn hb hv0 hv).mono ?_⟩⟩
  rintro e w' ⟨v,g',rfl,h1,h2,h3⟩
  refine ⟨v,g',rfl,h1,h2,h3,FOK.ne ?_⟩
  cases decodeS s <;> simp [decodeV]
 ·cases h
end
end Go.Proofs.YtmhmjlfajlpabaaDoor
set_option maxRecDepth 1000000
namespace Go.Proofs.YtmhmjlfajlpabaaDoor
open Go Go.Abs
theorem awake_run : envN code primsD 60 11 0 [] [] = some (boolD true,[]) := by kernel_rfl
theorem primsD_ok : ∀ f F,primsD f = some F → FSound Tryd.prog f F := fun f F h => by
 unfold primsD at h
 split at h
 ·rename_i hf; subst hf; cases h; exact decode_sound
 ·exact prims0_ok f F h
theorem awake_sound : FSound Tryd.prog 11 awakeF :=
 closed_sound (d := .bool true) mixed primsD_ok codeAll (k := 60) rfl awake_run
theorem prims_ok : ∀ f F,primsF f = some F → FSound Tryd.prog f F := fun f F h => by
 unfold primsF at h
 split at h
 ·rename_i hf; subst hf; cases h; exact awake_sound
 ·exact primsD_ok f F h
end Go.Proofs.YtmhmjlfajlpabaaDoor
namespace Go.Proofs.YtmhmjlfajlpabaaDoor
open Go Go.Abs Go.RowKit
theorem opens_texts (w : World) : Opens Tryd.prog w 23 fun ds => ∃ l : List Tx,ds = [sD l] ∧ ∀ s ∈ l,s.length ≤ reachBytes :=
 (opens_rows (sz := 1) (f := D.str) (Q := fun s : Tx => s.length ≤ reachBytes) Tryd.underlying23 (by kernel_rfl) (by decide) (opens_str Tryd.underlying9) fun es ⟨l,h,hl⟩ _ => ⟨l,hl,by rw [h]; rfl⟩).mono
  fun ds ⟨l,h1,_,h3⟩ => ⟨l,h1,h3⟩
def IsJ (ds : List D) : Prop := ∃ j : J,ds = [.int .i64 j.k,.int .i64 j.n,.str j.t,sD j.ks,jsD j.l]
theorem opens_json_at (w : World) : ∀ fuel,OpensAt Tryd.prog w 26 IsJ fuel := fun fuel => by
 induction fuel using Nat.strongRecOn with
 | _ fuel ih =>
  have h := opens_struct_at (P := Tryd.prog) (w := w) Tryd.underlying26 (As := [_,_,_,_,_]) (fuel := fuel)
   ⟨rfl,fun n _ => opens_i64 Tryd.underlying3 n,by kernel_rfl,fun n _ => opens_i64 Tryd.underlying2 n,by kernel_rfl,fun n _ => opens_str Tryd.underlying9 n,by kernel_rfl,fun n _ => opens_texts w n,by kernel_rfl,
    fun n hn => opens_slice_at (sz := 5) (A := IsJ) Tryd.underlying24 (by kernel_rfl) (by decide) fun m hm => ih m (by omega),trivial⟩ (by kernel_rfl)
  intro H enc base sp hd cs x hx hw
  obtain ⟨ds,h1,h2⟩ := h H enc base sp hd cs x hx hw
  refine ⟨ds,?_,h2⟩
  obtain ⟨d1,r1,rfl,⟨k,rfl,_⟩,d2,r2,rfl,⟨n,rfl,_⟩,d3,r3,rfl,⟨t,rfl,_⟩,d4,r4,rfl,⟨ks,rfl,_⟩,d5,r5,rfl,⟨xs,rfl,_,hxs⟩,h6⟩ := h1
  have : r5 = [] := h6
  subst this
  obtain ⟨l,_,h5⟩ := list_of (Q := fun _ : J => True) (f := J.d) (xs := xs) fun x hx => by
   obtain ⟨es,⟨j,rfl⟩,_,rfl⟩ := hxs x hx
   exact ⟨j,trivial,by rw [jd]; rfl⟩
  subst h5
  exact ⟨.mk k n t ks l,rfl⟩
theorem opens_json (w : World) : Opens Tryd.prog w 26 IsJ := opens_json_at w
end Go.Proofs.YtmhmjlfajlpabaaDoor
