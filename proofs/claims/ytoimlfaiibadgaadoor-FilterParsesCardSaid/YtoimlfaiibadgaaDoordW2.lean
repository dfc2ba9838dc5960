/- Letters of a text, as the document reads them, walked. (NOBIN: the arithmetic of numbers is not unfolded.) -/
import Derived.Test.YtoimlfaiibadgaaDoordCode
import Derived.Test.YtoimlfaiibadgaaDoorAbsC
import Derived.Test.YtoimlfaiibadgaaDoordK1
import Derived.Test.YtoimlfaiibadgaaDoordM1
set_option linter.unusedSimpArgs false
set_option linter.unusedVariables false
set_option linter.all false
set_option maxRecDepth 100000
namespace Go.Proofs.YtoimlfaiibadgaaDoor
open Go Go.Abs Go.Lib

/-- The plain end goes on, others end. -/
def midK (P : St → Prop) (Q : AExit → St → Prop) : AExit → St → Prop
  | .normal, s => P s
  | .exit i, s => Q (.exit i) s
  | .ret, s => Q .ret s
theorem W_midR {a b : CCode} {st : St} {Q : AExit → St → Prop} {lim : Nat} (P : St → Prop) (h1 : W X lim a st (midK P Q)) (h2 : ∀ s, P s → W X lim b s Q) : W X lim (.seq a b) st Q :=
  W_sq (h1.mono fun e s h => by
    cases e with
    | normal => simp only [seqK]; exact h2 s h
    | exit i => simp only [seqK]; exact h
    | ret => simp only [seqK]; exact h)

def isLet (c : Nat) : Bool := decide (c ≤ 1114111) && (decide (c < 55296) || decide (57343 < c))
theorem isLet_iff (c : Nat) : isLet c = true ↔ c ≤ 1114111 ∧ (c < 55296 ∨ 57343 < c) := by simp [isLet]

set_option maxRecDepth 100000 in
/-- Is a number a letter's? -/
theorem letter_ev (lim : Nat) (H : AHeap) (c : Nat) : Ev X 72 lim [intD c] H (boolD (isLet c)) H := by
  refine Fn.ev ?_
  refine Fn_of rfl (show code 72 = some c72 from rfl) rfl ?_; simp only [List.length_cons, List.length_nil, Nat.reduceAdd, Nat.reduceSub, List.reduceReplicate, List.cons_append, List.nil_append, reduceIte, Bool.false_eq_true]
  have f0 : ((c : Int) ≥ 0) = True := eq_true (by omega)
  obtain ⟨r, hr⟩ : ∃ r, isLet c = r := ⟨_, rfl⟩
  rw [hr]
  have yes : c ≤ 1114111 → (c < 55296 ∨ 57343 < c) → r = true := fun a b => hr ▸ (isLet_iff c).2 ⟨a, b⟩
  have no : ¬ (c ≤ 1114111 ∧ (c < 55296 ∨ 57343 < c)) → r = false := fun a => hr ▸ (Bool.not_eq_true _ ▸ mt (isLet_iff c).1 a)
  generalize e1 : (1114111 : Int) = u1
  generalize e2 : (55296 : Int) = u2
  generalize e3 : (57343 : Int) = u3
  by_cases h1 : c ≤ 1114111
  · have f1 : ((c : Int) ≤ u1) = True := eq_true (by omega)
    by_cases h2 : c < 55296
    · have f2 : ((c : Int) < u2) = True := eq_true (by omega)
      rw [yes h1 (.inl h2)]
      clear yes no
      (repeat ((first | refine W_sq ?_ | refine W_bk ?_ | refine W_ret ?_ | refine W_exit ?_ | refine W_skip ?_ | (apply W_rg; focus (intro _; simp only [evalR,runOps,stepOp,wanted,aop,evx,put,unflag,binV,isShift,AV.unf,List.contains,List.elem,z2,z3,z4,z5,Option.map,intD,reduceIte,z23,forgetT,z29,z42,z44,b_geq, b_leq, b_lss, f0, f1, f2]; (first | done | exact rfl))) | (refine W_cT ?_ ?_; focus (simp only [evx,List.contains,List.elem,z2,z3,AV.unf,reduceIte,z23,boolD]; done)) | (refine W_cF ?_ ?_; focus (simp only [evx,List.contains,List.elem,z2,z3,AV.unf,reduceIte,z23,boolD]; done))) <;> (try simp only [seqK])))
      exact ans_cut rfl rfl ⟨rfl, rfl⟩
    · have f2 : ((c : Int) < u2) = False := eq_false (by omega)
      by_cases h3 : 57343 < c
      · have f3 : ((c : Int) > u3) = True := eq_true (by omega)
        rw [yes h1 (.inr h3)]
        (repeat ((first | refine W_sq ?_ | refine W_bk ?_ | refine W_ret ?_ | refine W_exit ?_ | refine W_skip ?_ | (apply W_rg; focus (intro _; simp only [evalR,runOps,stepOp,wanted,aop,evx,put,unflag,binV,isShift,AV.unf,List.contains,List.elem,z2,z3,z4,z5,Option.map,intD,reduceIte,z23,forgetT,z29,z42,z43,b_geq, b_leq, b_lss, b_gtr, f0, f1, f2, f3]; (first | done | exact rfl))) | (refine W_cT ?_ ?_; focus (simp only [evx,List.contains,List.elem,z2,z3,AV.unf,reduceIte,z23,boolD]; done)) | (refine W_cF ?_ ?_; focus (simp only [evx,List.contains,List.elem,z2,z3,AV.unf,reduceIte,z23,boolD]; done))) <;> (try simp only [seqK])))
        exact ans_cut rfl rfl ⟨rfl, rfl⟩
      · have f3 : ((c : Int) > u3) = False := eq_false (by omega)
        rw [no (by omega)]
        (repeat ((first | refine W_sq ?_ | refine W_bk ?_ | refine W_ret ?_ | refine W_exit ?_ | refine W_skip ?_ | (apply W_rg; focus (intro _; simp only [evalR,runOps,stepOp,wanted,aop,evx,put,unflag,binV,isShift,AV.unf,List.contains,List.elem,z2,z3,z4,z5,Option.map,intD,reduceIte,z23,forgetT,z29,z42,z43,b_geq, b_leq, b_lss, b_gtr, f0, f1, f2, f3]; (first | done | exact rfl))) | (refine W_cT ?_ ?_; focus (simp only [evx,List.contains,List.elem,z2,z3,AV.unf,reduceIte,z23,boolD]; done)) | (refine W_cF ?_ ?_; focus (simp only [evx,List.contains,List.elem,z2,z3,AV.unf,reduceIte,z23,boolD]; done))) <;> (try simp only [seqK])))
        exact ans_cut rfl rfl ⟨rfl, rfl⟩
  · have f1 : ((c : Int) ≤ u1) = False := eq_false (by omega)
    rw [no (by omega)]
    (repeat ((first | refine W_sq ?_ | refine W_bk ?_ | refine W_ret ?_ | refine W_exit ?_ | refine W_skip ?_ | (apply W_rg; focus (intro _; simp only [evalR,runOps,stepOp,wanted,aop,evx,put,unflag,binV,isShift,AV.unf,List.contains,List.elem,z2,z3,z4,z5,Option.map,intD,reduceIte,z23,forgetT,z29,z32,z42,z43,z45,b_geq, b_leq, f0, f1]; (first | done | exact rfl))) | (refine W_cT ?_ ?_; focus (simp only [evx,List.contains,List.elem,z2,z3,AV.unf,reduceIte,z23,boolD]; done)) | (refine W_cF ?_ ?_; focus (simp only [evx,List.contains,List.elem,z2,z3,AV.unf,reduceIte,z23,boolD]; done))) <;> (try simp only [seqK])))
    exact ans_cut rfl rfl ⟨rfl, rfl⟩

/-- A letter's number, so far. -/
def acc (s : List UInt8) (a c0 : Nat) : Nat → Nat
  | 0 => c0
  | j + 1 => acc s a c0 j * 64 + by' s (a + (j + 1)) % 64

theorem acc_lt (s : List UInt8) (a c0 : Nat) (h : c0 < 64) : ∀ j, acc s a c0 j < 64 ^ (j + 1)
  | 0 => by simpa [acc] using h
  | j + 1 => by
    have := acc_lt s a c0 h j
    have e : 64 ^ (j + 1 + 1) = 64 ^ (j + 1) * 64 := Nat.pow_succ ..
    unfold acc; omega

/-- What a first byte tells: how many more bytes, the least number, and its own part. -/
def Cls (b m least c0 : Nat) : Prop := (m = 1 ∧ least = 128 ∧ b / 32 = 6 ∧ c0 = b % 32) ∨ (m = 2 ∧ least = 2048 ∧ b / 16 = 14 ∧ c0 = b % 16) ∨ (m = 3 ∧ least = 65536 ∧ b / 8 = 30 ∧ c0 = b % 8)

theorem Cls.yes {s : List UInt8} {a m least c0 : Nat} (h : Cls (by' s a) m least c0) (ha : a < s.length) (hc : ∀ j, 1 ≤ j → j ≤ m → a + j < s.length ∧ by' s (a + j) / 64 = 2)
    (h1 : ¬ acc s a c0 m < least) (h2 : acc s a c0 m ≤ 1114111 ∧ (acc s a c0 m < 55296 ∨ 57343 < acc s a c0 m)) : (dc (s.drop a)).2 = m + 1 := by
  have hd : dc (s.drop a) = decodeN (s.length - a) (by' s a) (by' s (a + 1)) (by' s (a + 2)) (by' s (a + 3)) := by unfold dc; simp only [by_drop, List.length_drop, Nat.add_zero]
  rw [hd]
  rcases h with ⟨rfl, rfl, h3, rfl⟩ | ⟨rfl, rfl, h3, rfl⟩ | ⟨rfl, rfl, h3, rfl⟩
  · have c1 := hc 1 (by omega) (by omega)
    simp only [acc] at h1 h2
    unfold decodeN
    rw [if_neg (by omega), if_pos ⟨h3, by omega, c1.2⟩, if_pos (by simpa using h1)]
  · have c1 := hc 1 (by omega) (by omega)
    have c2 := hc 2 (by omega) (by omega)
    simp only [acc, Nat.reduceAdd] at h1 h2
    unfold decodeN
    rw [if_neg (by omega), if_neg (by omega), if_pos ⟨h3, ⟨by omega, c1.2⟩, ⟨by omega, c2.2⟩⟩, if_pos (by omega)]
  · have c1 := hc 1 (by omega) (by omega)
    have c2 := hc 2 (by omega) (by omega)
    have c3 := hc 3 (by omega) (by omega)
    simp only [acc, Nat.reduceAdd] at h1 h2
    unfold decodeN
    rw [if_neg (by omega), if_neg (by omega), if_neg (by omega), if_pos ⟨h3, ⟨by omega, c1.2⟩, ⟨by omega, c2.2⟩, ⟨by omega, c3.2⟩⟩, if_pos (by omega)]

theorem Cls.no {s : List UInt8} {a m least c0 : Nat} (h : Cls (by' s a) m least c0)
    (hn : (∃ j, 1 ≤ j ∧ j ≤ m ∧ (¬ a + j < s.length ∨ by' s (a + j) / 64 ≠ 2)) ∨ acc s a c0 m < least ∨ ¬ (acc s a c0 m ≤ 1114111 ∧ (acc s a c0 m < 55296 ∨ 57343 < acc s a c0 m))) : dc (s.drop a) = (65533, 1) := by
  have hd : dc (s.drop a) = decodeN (s.length - a) (by' s a) (by' s (a + 1)) (by' s (a + 2)) (by' s (a + 3)) := by unfold dc; simp only [by_drop, List.length_drop, Nat.add_zero]
  rw [hd]
  have bad : ∀ j, (¬ a + j < s.length ∨ by' s (a + j) / 64 ≠ 2) → ¬ (j < s.length - a ∧ by' s (a + j) / 64 = 2) := fun j h k => by omega
  rcases h with ⟨rfl, rfl, h3, rfl⟩ | ⟨rfl, rfl, h3, rfl⟩ | ⟨rfl, rfl, h3, rfl⟩
  · unfold decodeN
    rw [if_neg (by omega)]
    by_cases k : 1 < s.length - a ∧ by' s (a + 1) / 64 = 2
    · rw [if_pos ⟨h3, k⟩]
      rcases hn with ⟨j, h4, h5, h6⟩ | hn
      · obtain rfl : j = 1 := by omega
        exact absurd k (bad _ h6)
      · simp only [acc] at hn
        split
        · exfalso; omega
        · rfl
    · rw [if_neg (fun h => k h.2), if_neg (by omega), if_neg (by omega)]
  · unfold decodeN
    rw [if_neg (by omega), if_neg (by omega)]
    by_cases k : (1 < s.length - a ∧ by' s (a + 1) / 64 = 2) ∧ (2 < s.length - a ∧ by' s (a + 2) / 64 = 2)
    · rw [if_pos ⟨h3, k⟩]
      rcases hn with ⟨j, h4, h5, h6⟩ | hn
      · obtain rfl | rfl : j = 1 ∨ j = 2 := by omega
        · exact absurd k.1 (bad _ h6)
        · exact absurd k.2 (bad _ h6)
      · simp only [acc, Nat.reduceAdd] at hn
        split
        · exfalso; omega
        · rfl
    · rw [if_neg (fun h => k h.2), if_neg (by omega)]
  · unfold decodeN
    rw [if_neg (by omega), if_neg (by omega), if_neg (by omega)]
    by_cases k : (1 < s.length - a ∧ by' s (a + 1) / 64 = 2) ∧ (2 < s.length - a ∧ by' s (a + 2) / 64 = 2) ∧ (3 < s.length - a ∧ by' s (a + 3) / 64 = 2)
    · rw [if_pos ⟨h3, k⟩]
      rcases hn with ⟨j, h4, h5, h6⟩ | hn
      · obtain rfl | rfl | rfl : j = 1 ∨ j = 2 ∨ j = 3 := by omega
        · exact absurd k.1 (bad _ h6)
        · exact absurd k.2.1 (bad _ h6)
        · exact absurd k.2.2 (bad _ h6)
      · simp only [acc, Nat.reduceAdd] at hn
        split
        · exfalso; omega
        · rfl
    · rw [if_neg (fun h => k h.2)]

theorem Cls.ascii {s : List UInt8} {a : Nat} (h : by' s a < 128) : dc (s.drop a) = (by' s a, 1) := by
  have hd : dc (s.drop a) = decodeN (s.length - a) (by' s a) (by' s (a + 1)) (by' s (a + 2)) (by' s (a + 3)) := by unfold dc; simp only [by_drop, List.length_drop, Nat.add_zero]
  rw [hd]; unfold decodeN; rw [if_pos h]

theorem Cls.none {s : List UInt8} {a : Nat} (h : (128 ≤ by' s a ∧ by' s a < 192) ∨ 248 ≤ by' s a) : dc (s.drop a) = (65533, 1) := by
  have hd : dc (s.drop a) = decodeN (s.length - a) (by' s a) (by' s (a + 1)) (by' s (a + 2)) (by' s (a + 3)) := by unfold dc; simp only [by_drop, List.length_drop, Nat.add_zero]
  rw [hd]; unfold decodeN; rw [if_neg (by omega), if_neg (by omega), if_neg (by omega), if_neg (by omega)]

theorem Cls.two {s : List UInt8} {a m least c0 b : Nat} (h : Cls b m least c0) (hy : (dc (s.drop a)).2 = m + 1) (e : dc (s.drop a) = (65533, 1)) : False := by
  rw [e] at hy
  have h1 : 1 ≤ m := by rcases h with h | h | h <;> omega
  have h2 : 1 = m + 1 := hy
  omega

/-- The document's letter at a place: how many bytes it has. -/
def RuneQ (s : List UInt8) (a : Nat) (H : AHeap) (v : AV) (H' : AHeap) : Prop := (∃ (r : Int) (n : Nat), v = .tuple [.d (.int .i64 r), intD n] ∧ max 1 n = (dc (s.drop a)).2 ∧ n ≤ 4 ∧ decide (n = 0) = decide (dc (s.drop a) = (65533, 1))) ∧ H' = H

theorem rune_no {s : List UInt8} {a : Nat} (h : dc (s.drop a) = (65533, 1)) : max 1 0 = (dc (s.drop a)).2 ∧ (0 : Nat) ≤ 4 ∧ decide ((0 : Nat) = 0) = decide (dc (s.drop a) = (65533, 1)) := by
  rw [h]; exact ⟨rfl, by omega, by simp⟩
theorem rune_yes {s : List UInt8} {a n : Nat} (h1 : 1 ≤ n) (h4 : n ≤ 4) (h : (dc (s.drop a)).2 = n) (hn : dc (s.drop a) ≠ (65533, 1)) : max 1 n = (dc (s.drop a)).2 ∧ n ≤ 4 ∧ decide (n = 0) = decide (dc (s.drop a) = (65533, 1)) :=
  ⟨by omega, h4, by rw [decide_eq_false hn, decide_eq_false (by omega)]⟩

theorem toInt64 (b : Nat) (h : b < 256) : IntKind.i64.wrap (b : Int) = b := w64n _ (by omega)

set_option maxHeartbeats 4000000 in
--
theorem rune_ev (lim : Nat) (H : AHeap) (s : List UInt8) (a : Nat) (ha : a < s.length) (hs : s.length ≤ 1000000) : Go.Abs.Fn X 71 lim [.d (.str s), intD a] H (RuneQ s a H) := by
  refine Fn_of rfl (show code 71 = some c71 from rfl) rfl ?_; simp only [List.length_cons, List.length_nil, Nat.reduceAdd, Nat.reduceSub, List.reduceReplicate, List.cons_append, List.nil_append, reduceIte, Bool.false_eq_true]
  obtain ⟨b, hb⟩ : ∃ b, s[a]? = some b := ⟨_, List.getElem?_eq_getElem ha⟩
  have hby := by_some hb
  have hlt := by_lt s a
  rw [hby] at hlt
  have hal : (a : Int) < s.length := by omega
  have g1 := toInt64 b.toNat hlt
  by_cases k0 : b.toNat < 128
  · have f0 : ((b.toNat : Int) < 128) = True := eq_true (by omega)
    (repeat ((first | refine W_sq ?_ | refine W_bk ?_ | refine W_ret ?_ | refine W_exit ?_ | refine W_skip ?_ | (apply W_rg; focus (intro _; simp only [evalR,runOps,stepOp,wanted,aop,evx,put,unflag,binV,isShift,AV.unf,AV.int?,List.contains,List.elem,z2,z3,z4,z5,Option.map,intD,reduceIte,z23,forgetT,z29,z42,z52,z55,hb, byteD, g1, b_lss, f0]; (first | done | exact rfl))) | (refine W_cT ?_ ?_; focus (simp only [evx,List.contains,List.elem,z2,z3,AV.unf,reduceIte,z23]; done)) | (refine W_cF ?_ ?_; focus (simp only [evx,List.contains,List.elem,z2,z3,AV.unf,reduceIte,z23,boolD]; done))) <;> (try simp only [seqK])))
    exact ans_cut rfl rfl ⟨⟨_, 1, rfl, rune_yes (by omega) (by omega) (by rw [Cls.ascii (by omega)]) (by rw [Cls.ascii (by omega)]; intro e; have := congrArg Prod.fst e; simp only at this; omega)⟩, rfl⟩
  have f0 : ((b.toNat : Int) < 128) = False := eq_false (by omega)
  (iterate 11 ((first | refine W_sq ?_ | refine W_bk ?_ | refine W_ret ?_ | refine W_exit ?_ | refine W_skip ?_ | (apply W_rg; focus (intro _; simp only [evalR,runOps,stepOp,wanted,aop,evx,put,unflag,binV,isShift,AV.unf,AV.int?,List.contains,List.elem,z2,z3,z4,z5,Option.map,intD,reduceIte,z23,forgetT,z29,z43,z52,z55,hb, byteD, g1, b_lss, f0]; (first | done | exact rfl))) | (refine W_cT ?_ ?_; focus (simp only [evx,List.contains,List.elem,z2,z3,AV.unf,reduceIte,z23]; done)) | (refine W_cF ?_ ?_; focus (simp only [evx,List.contains,List.elem,z2,z3,AV.unf,reduceIte,z23]; done))) <;> (try simp only [seqK])))
  refine W_midR (fun st => ∃ m least c0 : Nat, Cls (by' s a) m least c0 ∧ ∃ x : Nat → AV, st = ⟨[.d (.str s), intD a, x 2, x 3, x 4, x 5, x 6, x 7, x 8, intD 0, intD 0, intD c0, intD m, intD least, x 14, x 15, x 16, x 17, x 18], H⟩) ?_ ?_
  · have n1 := and31 _ hlt
    have n2 := and15 _ hlt
    have n3 := and7 _ hlt
    by_cases k1 : 192 ≤ b.toNat
    · have f1 : ((b.toNat : Int) ≥ 192) = True := eq_true (by omega)
      by_cases k2 : b.toNat < 224
      · have f2 : ((b.toNat : Int) < 224) = True := eq_true (by omega)
        (repeat ((first | refine W_sq ?_ | refine W_bk ?_ | refine W_ret ?_ | refine W_exit ?_ | refine W_skip ?_ | (apply W_rg; focus (intro _; simp only [evalR,runOps,stepOp,wanted,aop,evx,put,unflag,binV,isShift,AV.unf,List.contains,List.elem,z2,z3,z4,z5,Option.map,reduceIte,z23,forgetT,z29,z42,b_geq, b_lss, f1, f2, n1]; (first | done | exact rfl))) | (refine W_cT ?_ ?_; focus (simp only [evx,List.contains,List.elem,z2,z3,AV.unf,reduceIte,z23]; done)) | (refine W_cF ?_ ?_; focus (simp only [evx,List.contains,List.elem,z2,z3,AV.unf,reduceIte,z23,boolD]; done))) <;> (try simp only [seqK,blockK])))
        exact ⟨1, 128, b.toNat % 32, .inl ⟨rfl, rfl, by omega, by rw [hby]⟩, ex_st _ _ _ rfl⟩
      have f2 : ((b.toNat : Int) < 224) = False := eq_false (by omega)
      have f3 : ((b.toNat : Int) ≥ 224) = True := eq_true (by omega)
      by_cases k3 : b.toNat < 240
      · have f4 : ((b.toNat : Int) < 240) = True := eq_true (by omega)
        (repeat ((first | refine W_sq ?_ | refine W_bk ?_ | refine W_ret ?_ | refine W_exit ?_ | refine W_skip ?_ | (apply W_rg; focus (intro _; simp only [evalR,runOps,stepOp,wanted,aop,evx,put,unflag,binV,isShift,AV.unf,List.contains,List.elem,z2,z3,z4,z5,Option.map,reduceIte,z23,forgetT,z29,z42,z43,b_geq, b_lss, f1, f2, f3, f4, n2]; (first | done | exact rfl))) | (refine W_cT ?_ ?_; focus (simp only [evx,List.contains,List.elem,z2,z3,AV.unf,reduceIte,z23]; done)) | (refine W_cF ?_ ?_; focus (simp only [evx,List.contains,List.elem,z2,z3,AV.unf,reduceIte,z23]; done))) <;> (try simp only [seqK,blockK])))
        exact ⟨2, 2048, b.toNat % 16, .inr (.inl ⟨rfl, rfl, by omega, by rw [hby]⟩), ex_st _ _ _ rfl⟩
      have f4 : ((b.toNat : Int) < 240) = False := eq_false (by omega)
      have f5 : ((b.toNat : Int) ≥ 240) = True := eq_true (by omega)
      by_cases k4 : b.toNat < 248
      · have f6 : ((b.toNat : Int) < 248) = True := eq_true (by omega)
        (repeat ((first | refine W_sq ?_ | refine W_bk ?_ | refine W_ret ?_ | refine W_exit ?_ | refine W_skip ?_ | (apply W_rg; focus (intro _; simp only [evalR,runOps,stepOp,wanted,aop,evx,put,unflag,binV,isShift,AV.unf,List.contains,List.elem,z2,z3,z4,z5,Option.map,reduceIte,z23,forgetT,z29,z42,z43,b_geq, b_lss, f1, f2, f3, f4, f5, f6, n3]; (first | done | exact rfl))) | (refine W_cT ?_ ?_; focus (simp only [evx,List.contains,List.elem,z2,z3,AV.unf,reduceIte,z23]; done)) | (refine W_cF ?_ ?_; focus (simp only [evx,List.contains,List.elem,z2,z3,AV.unf,reduceIte,z23]; done))) <;> (try simp only [seqK,blockK])))
        exact ⟨3, 65536, b.toNat % 8, .inr (.inr ⟨rfl, rfl, by omega, by rw [hby]⟩), ex_st _ _ _ rfl⟩
      · have f6 : ((b.toNat : Int) < 248) = False := eq_false (by omega)
        (repeat ((first | refine W_sq ?_ | refine W_bk ?_ | refine W_ret ?_ | refine W_exit ?_ | refine W_skip ?_ | (apply W_rg; focus (intro _; simp only [evalR,runOps,stepOp,wanted,aop,evx,put,unflag,binV,isShift,AV.unf,List.contains,List.elem,z2,z3,z4,z5,Option.map,reduceIte,z23,forgetT,z29,z42,z43,b_geq, b_lss, f1, f2, f3, f4, f5, f6]; (first | done | exact rfl))) | (refine W_cT ?_ ?_; focus (simp only [evx,List.contains,List.elem,z2,z3,AV.unf,reduceIte,z23]; done)) | (refine W_cF ?_ ?_; focus (simp only [evx,List.contains,List.elem,z2,z3,AV.unf,reduceIte,z23]; done))) <;> (try simp only [seqK,blockK])))
        exact ans_cut rfl rfl ⟨⟨_, 0, rfl, rune_no (Cls.none (by omega))⟩, rfl⟩
    · have f1 : ((b.toNat : Int) ≥ 192) = False := eq_false (by omega)
      have f3 : ((b.toNat : Int) ≥ 224) = False := eq_false (by omega)
      have f5 : ((b.toNat : Int) ≥ 240) = False := eq_false (by omega)
      (repeat ((first | refine W_sq ?_ | refine W_bk ?_ | refine W_ret ?_ | refine W_exit ?_ | refine W_skip ?_ | (apply W_rg; focus (intro _; simp only [evalR,runOps,stepOp,wanted,aop,evx,put,unflag,binV,isShift,AV.unf,List.contains,List.elem,z2,z3,z4,z5,Option.map,reduceIte,z23,forgetT,z29,z32,z43,z45,b_geq, f1, f3, f5]; (first | done | exact rfl))) | (refine W_cT ?_ ?_; focus (simp only [evx,List.contains,List.elem,z2,z3,AV.unf,reduceIte,z23]; done)) | (refine W_cF ?_ ?_; focus (simp only [evx,List.contains,List.elem,z2,z3,AV.unf,reduceIte,z23]; done))) <;> (try simp only [seqK,blockK])))
      exact ans_cut rfl rfl ⟨⟨_, 0, rfl, rune_no (Cls.none (by omega))⟩, rfl⟩
  · rintro _ ⟨m, least, c0, hcls, x, rfl⟩
    have hm : m ≤ 3 := by rcases hcls with h | h | h <;> omega
    have hc0 : c0 < 64 := by rcases hcls with h | h | h <;> omega
    have hacc : ∀ j, j ≤ 3 → acc s a c0 j < 16777216 := fun j hj => by
      have h1 := acc_lt s a c0 hc0 j
      have h2 : 64 ^ (j + 1) ≤ 64 ^ 4 := Nat.pow_le_pow_right (by decide) (by omega)
      omega
    (repeat ((first | refine W_sq ?_ | refine W_bk ?_ | refine W_ret ?_ | refine W_exit ?_ | refine W_skip ?_ | (apply W_rg; focus (intro _; simp only [evalR,runOps,stepOp,wanted,aop,evx,put,unflag,z4,z5,intD,forgetT]; (first | done | exact rfl))) | (refine W_cT ?_ ?_; focus (simp only [evx,List.contains,List.elem,z2,z3,AV.unf,reduceIte,z23,boolD]; done)) | (refine W_cF ?_ ?_; focus (simp only [evx,List.contains,List.elem,z2,z3,AV.unf,reduceIte,z23,boolD]; done))) <;> (try simp only [seqK])))
    refine W_lp (fun k st => ∃ i : Nat, i ≤ m ∧ k = m - i ∧ (∀ j, 1 ≤ j → j ≤ i → a + j < s.length ∧ by' s (a + j) / 64 = 2) ∧ ∃ x : Nat → AV, st = ⟨[.d (.str s), intD a, x 2, x 3, x 4, x 5, x 6, x 7, x 8, intD 0, intD 0, intD (acc s a c0 i), intD m, intD least, intD (i + 1 : Nat), x 15, x 16, x 17, x 18], H⟩) ?_ _ _ ⟨0, Nat.zero_le _, rfl, fun j h1 h2 => by omega, ex_st _ _ _ rfl⟩
    rintro k _ ⟨i, hi, rfl, hall, x, rfl⟩
    by_cases q0 : i + 1 ≤ m
    · have f0 : (((i + 1 : Nat) : Int) ≤ (m : Int)) = True := eq_true (by omega)
      have w1 : IntKind.i64.wrap ((a : Int) + ((i + 1 : Nat) : Int)) = ((a + (i + 1) : Nat) : Int) := by rw [w64 (by omega) (by omega)]; omega
      by_cases q1 : a + (i + 1) < s.length
      · have f1 : (((a + (i + 1) : Nat) : Int) ≥ (s.length : Int)) = False := eq_false (by omega)
        obtain ⟨d, hd⟩ : ∃ d, s[a + (i + 1)]? = some d := ⟨_, List.getElem?_eq_getElem q1⟩
        have hdl := d.toNat_lt
        have hdb := by_some hd
        have n4 := and192u d.toNat hdl
        have n5 := and63u d.toNat hdl
        by_cases q2 : d.toNat / 64 = 2
        · have f2 : (((d.toNat / 64 * 64 : Nat) : Int) != 128) = false := by rw [q2]; rfl
          have n6 := shl6 (acc s a c0 i) (by have := hacc i (by omega); omega)
          have n7 : IntKind.i64.wrap ((d.toNat % 64 : Nat) : Int) = ((d.toNat % 64 : Nat) : Int) := w64n _ (by omega)
          have n8 := or6 (acc s a c0 i) (d.toNat % 64) (by have := hacc i (by omega); omega) (by omega)
          have w2 : IntKind.i64.wrap (((i + 1 : Nat) : Int) + 1) = ((i + 1 + 1 : Nat) : Int) := by rw [w64 (by omega) (by omega)]; omega
          (repeat ((first | refine W_sq ?_ | refine W_bk ?_ | refine W_ret ?_ | refine W_exit ?_ | refine W_skip ?_ | (apply W_rg; focus (intro _; simp only [evalR,runOps,stepOp,wanted,aop,evx,put,unflag,binV,isShift,AV.unf,AV.int?,List.contains,List.elem,z2,z3,z4,z5,Option.map,intD,reduceIte,z23,forgetT,z29,z42,z43,z52,z55,b_geq, b_leq, b_add, b_neq, f0, f1, f2, w1, w2, hd, byteD, n4, n5, n6, n7, n8]; (first | done | exact rfl))) | (refine W_cT ?_ ?_; focus (simp only [evx,List.contains,List.elem,z2,z3,AV.unf,reduceIte,z23]; done)) | (refine W_cF ?_ ?_; focus (simp only [evx,List.contains,List.elem,z2,z3,AV.unf,reduceIte,z23]; done))) <;> (try simp only [seqK,blockK,loopK])))
          refine ⟨m - (i + 1), by omega, i + 1, q0, rfl, ?_, ?_⟩
          · intro j h1 h2
            by_cases h3 : j ≤ i
            · exact hall j h1 h3
            · obtain rfl : j = i + 1 := by omega
              exact ⟨q1, by rw [hdb]; exact q2⟩
          · have e : acc s a c0 (i + 1) = acc s a c0 i * 64 + d.toNat % 64 := by rw [← hdb]; rfl
            rw [e]
            exact ex_st _ _ _ rfl
        · have f2 : (((d.toNat / 64 * 64 : Nat) : Int) != 128) = true := by
            have : ((d.toNat / 64 * 64 : Nat) : Int) ≠ 128 := by omega
            simpa using this
          (repeat ((first | refine W_sq ?_ | refine W_bk ?_ | refine W_ret ?_ | refine W_exit ?_ | refine W_skip ?_ | (apply W_rg; focus (intro _; simp only [evalR,runOps,stepOp,wanted,aop,evx,put,unflag,binV,isShift,AV.unf,AV.int?,List.contains,List.elem,z2,z3,z4,z5,Option.map,intD,reduceIte,z23,forgetT,z29,z42,z43,z52,z55,b_geq, b_leq, b_add, b_neq, f0, f1, f2, w1, hd, byteD, n4]; (first | done | exact rfl))) | (refine W_cT ?_ ?_; focus (simp only [evx,List.contains,List.elem,z2,z3,AV.unf,reduceIte,z23]; done)) | (refine W_cF ?_ ?_; focus (simp only [evx,List.contains,List.elem,z2,z3,AV.unf,reduceIte,z23,boolD]; done))) <;> (try simp only [seqK,blockK,loopK])))
          exact ans_cut rfl rfl ⟨⟨_, 0, rfl, rune_no (Cls.no hcls (.inl ⟨i + 1, by omega, q0, .inr (by rw [hdb]; exact q2)⟩))⟩, rfl⟩
      · have f1 : (((a + (i + 1) : Nat) : Int) ≥ (s.length : Int)) = True := eq_true (by omega)
        (repeat ((first | refine W_sq ?_ | refine W_bk ?_ | refine W_ret ?_ | refine W_exit ?_ | refine W_skip ?_ | (apply W_rg; focus (intro _; simp only [evalR,runOps,stepOp,wanted,aop,evx,put,unflag,binV,isShift,AV.unf,List.contains,List.elem,z2,z3,z4,z5,Option.map,intD,reduceIte,z23,forgetT,z42,z44,b_geq, b_leq, b_add, f0, f1, w1]; (first | done | exact rfl))) | (refine W_cT ?_ ?_; focus (simp only [evx,List.contains,List.elem,z2,z3,AV.unf,reduceIte,z23]; done)) | (refine W_cF ?_ ?_; focus (simp only [evx,List.contains,List.elem,z2,z3,AV.unf,reduceIte,z23,boolD]; done))) <;> (try simp only [seqK,blockK,loopK])))
        exact ans_cut rfl rfl ⟨⟨_, 0, rfl, rune_no (Cls.no hcls (.inl ⟨i + 1, by omega, q0, .inl q1⟩))⟩, rfl⟩
    · obtain rfl : i = m := by omega
      have f0 : (((i + 1 : Nat) : Int) ≤ (i : Int)) = False := eq_false (by omega)
      by_cases q1 : acc s a c0 i < least
      · have f1 : ((acc s a c0 i : Int) < (least : Int)) = True := eq_true (by omega)
        (repeat ((first | refine W_sq ?_ | refine W_bk ?_ | refine W_ret ?_ | refine W_exit ?_ | refine W_skip ?_ | (apply W_rg; focus (intro _; simp only [evalR,runOps,stepOp,wanted,aop,evx,put,unflag,binV,isShift,AV.unf,List.contains,List.elem,z2,z3,z4,z5,Option.map,intD,reduceIte,z23,forgetT,z42,z43,z44,b_leq, b_lss, f0, f1]; (first | done | exact rfl))) | (refine W_cT ?_ ?_; focus (simp only [evx,List.contains,List.elem,z2,z3,AV.unf,reduceIte,z23]; done)) | (refine W_cF ?_ ?_; focus (simp only [evx,List.contains,List.elem,z2,z3,AV.unf,reduceIte,z23]; done))) <;> (try simp only [seqK,blockK,loopK,reduceIte])))
        exact ans_cut rfl rfl ⟨⟨_, 0, rfl, rune_no (Cls.no hcls (.inr (.inl q1)))⟩, rfl⟩
      · have f1 : ((acc s a c0 i : Int) < (least : Int)) = False := eq_false (by omega)
        have w1 : IntKind.i64.wrap ((i : Int) + 1) = ((i + 1 : Nat) : Int) := wsucc (by omega)
        have hl := isLet_iff (acc s a c0 i)
        have he := letter_ev H.length H (acc s a c0 i)
        generalize isLet (acc s a c0 i) = r at hl he
        (iterate 6 ((first | refine W_sq ?_ | refine W_bk ?_ | refine W_ret ?_ | refine W_exit ?_ | refine W_skip ?_ | (apply W_rg; focus (intro _; simp only [evalR,runOps,stepOp,wanted,aop,evx,put,unflag,binV,isShift,AV.unf,List.contains,List.elem,z2,z3,z4,z5,Option.map,intD,reduceIte,z23,forgetT,z43,b_leq, f0]; (first | done | exact rfl))) | (refine W_cT ?_ ?_; focus (simp only [evx,List.contains,List.elem,z2,z3,AV.unf,reduceIte,z23]; done)) | (refine W_cF ?_ ?_; focus (simp only [evx,List.contains,List.elem,z2,z3,AV.unf,reduceIte,z23]; done))) <;> (try simp only [seqK,blockK,loopK,reduceIte])))
        cases r with
        | true =>
          (apply W_drw; focus (refine Evl.call (he) (Evl.all fun k e1 => ?_); simp (maxSteps := 100000000) only [evalR,runOps,stepOp,wanted,aop,evx,put,unflag,binV,isShift,unV,AV.unf,List.contains,List.elem,z2,z3,z4,z5,z8,z9,Option.map,boolD,reduceIte,z23,forgetT,z29,z32,z43,b_lss, f1, e1]; (first | done | exact rfl))) <;> (try simp only [seqK])
          (repeat ((first | refine W_sq ?_ | refine W_bk ?_ | refine W_ret ?_ | refine W_exit ?_ | refine W_skip ?_ | (apply W_rg; focus (intro _; simp only [evalR,runOps,stepOp,wanted,aop,evx,put,unflag,binV,isShift,AV.unf,List.contains,List.elem,z2,z3,z4,z5,Option.map,reduceIte,z23,forgetT,z29,b_add, w1]; (first | done | exact rfl))) | (refine W_cT ?_ ?_; focus (simp only [evx,List.contains,List.elem,z2,z3,AV.unf,reduceIte,z23]; done)) | (refine W_cF ?_ ?_; focus (simp only [evx,List.contains,List.elem,z2,z3,AV.unf,reduceIte,z23]; done))) <;> (try simp only [seqK])))
          exact ans_cut rfl rfl ⟨⟨_, i + 1, rfl, have hy := Cls.yes hcls ha (fun j h1 h2 => hall j h1 h2) q1 (hl.1 rfl); rune_yes (by omega) (by omega) hy (fun e => Cls.two hcls hy e)⟩, rfl⟩
        | false =>
          (apply W_drw; focus (refine Evl.call (he) (Evl.all fun k e1 => ?_); simp (maxSteps := 100000000) only [evalR,runOps,stepOp,wanted,aop,evx,put,unflag,binV,isShift,unV,AV.unf,List.contains,List.elem,z2,z3,z4,z5,z8,z9,Option.map,boolD,reduceIte,z23,forgetT,z29,z31,z43,b_lss, f1, e1]; (first | done | exact rfl))) <;> (try simp only [seqK])
          (repeat ((first | refine W_sq ?_ | refine W_bk ?_ | refine W_ret ?_ | refine W_exit ?_ | refine W_skip ?_ | (apply W_rg; focus (intro _; simp only [evalR,runOps,stepOp,wanted,aop,evx,put,unflag,z4,z5,forgetT]; (first | done | exact rfl))) | (refine W_cT ?_ ?_; focus (simp only [evx,List.contains,List.elem,z2,z3,AV.unf,reduceIte,z23]; done)) | (refine W_cF ?_ ?_; focus (simp only [evx,List.contains,List.elem,z2,z3,AV.unf,reduceIte,z23,boolD]; done))) <;> (try simp only [seqK])))
          exact ans_cut rfl rfl ⟨⟨_, 0, rfl, rune_no (Cls.no hcls (.inr (.inr fun h => by cases hl.2 h)))⟩, rfl⟩
end Go.Proofs.YtoimlfaiibadgaaDoor
