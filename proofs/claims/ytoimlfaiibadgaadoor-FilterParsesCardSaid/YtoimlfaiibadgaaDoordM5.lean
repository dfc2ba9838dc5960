/- JSON, as plain data; what is good; a filter's content: rows alone. -/
import Derived.Test.YtoimlfaiibadgaaDoordM4
import Derived.Test.YtoimlfaiibadgaaDoordM1
import Derived.Lib.ValidU
import Derived.KernelRfl
set_option linter.unusedSimpArgs false
set_option linter.unusedVariables false
set_option linter.all false
set_option maxRecDepth 100000
namespace Go.Proofs.YtoimlfaiibadgaaDoor
open Go Go.Abs Go.Lib

inductive J where
  | mk (k n : Int) (t : Tx) (ks : List Tx) (l : List J)

namespace J
def k : J → Int | .mk k _ _ _ _ => k
def n : J → Int | .mk _ n _ _ _ => n
def t : J → Tx | .mk _ _ t _ _ => t
def ks : J → List Tx | .mk _ _ _ ks _ => ks
def l : J → List J | .mk _ _ _ _ l => l
end J

mutual
def J.d : J → D
  | .mk k n t ks l => .agg [.int .i64 k, .int .i64 n, .str t, sD ks, .slice (J.ds l)]
def J.ds : List J → List D
  | [] => []
  | a :: l => J.d a :: J.ds l
end
theorem ds_map : ∀ l : List J, J.ds l = l.map J.d
  | [] => by unfold J.ds; rfl
  | a :: l => by unfold J.ds; rw [ds_map l]; rfl
abbrev jsD (l : List J) : D := .slice (l.map J.d)
theorem jd (j : J) : j.d = .agg [.int .i64 j.k, .int .i64 j.n, .str j.t, sD j.ks, jsD j.l] := by
  obtain ⟨k, n, t, ks, l⟩ := j
  unfold J.d
  rw [ds_map]; rfl
abbrev jC (j : J) : List AV := [.d (.int .i64 j.k), .d (.int .i64 j.n), .d (.str j.t), .d (sD j.ks), .d (jsD j.l)]
abbrev J.zero : J := .mk 0 0 [] [] []

/-! What is good. -/
abbrev vB (s : Tx) : Bool := Lib.validD s
def namedB (ks : List Tx) : Bool := ks.all vB && decide ks.Nodup
def emptyB (j : J) : Bool := decide (j.ks.length + j.l.length = 0)
def shapedB (j : J) : Bool :=
  if j.k = 0 then emptyB j && decide (j.n = 0) && decide (j.t = [])
  else if j.k = 1 then emptyB j && decide (j.t = []) && (decide (j.n = 0) || decide (j.n = 1))
  else if j.k = 2 then emptyB j && decide (j.t = []) && decide (-9007199254740991 ≤ j.n) && decide (j.n ≤ 9007199254740991)
  else if j.k = 3 then emptyB j && decide (j.n = 0) && vB j.t
  else if j.k = 4 then decide (j.ks.length = 0) && decide (j.n = 0) && decide (j.t = [])
  else if j.k = 5 then decide (j.ks.length = j.l.length) && decide (j.n = 0) && decide (j.t = []) && namedB j.ks
  else false
def goodB : Nat → J → Bool
  | 0, _ => false
  | n + 1, j => shapedB j && j.l.all (goodB n)

/-! What is small. -/
def bigB (j : J) (n : Int) : Bool := decide (n < 1) || decide (500 < j.t.length) || decide (100 < j.ks.length) || decide (200 < j.l.length)
def leftI : Nat → J → Int → Int
  | 0, _, _ => -1
  | d + 1, j, n => if bigB j n = true then -1 else if (j.ks.all fun s => decide (s.length ≤ 200)) = false then -1 else j.l.foldl (fun n k => if n < 0 then n else leftI d k n) (n - 1)
/-- All is short, so deep. -/
def Bd : Nat → J → Prop
  | 0, _ => False
  | d + 1, j => j.t.length ≤ 500 ∧ j.ks.length ≤ 100 ∧ j.l.length ≤ 200 ∧ (∀ s ∈ j.ks, s.length ≤ 200) ∧ ∀ x ∈ j.l, Bd d x

theorem fold_neg {f : J → Int → Int} : ∀ (l : List J) (n : Int), n < 0 → l.foldl (fun n k => if n < 0 then n else f k n) n = n
  | [], _, _ => rfl
  | a :: l, n, h => by rw [List.foldl_cons, if_pos h]; exact fold_neg l n h
theorem fold_all {f : J → Int → Int} {P : J → Prop} (hf : ∀ k n, 0 ≤ f k n → P k) : ∀ (l : List J) (n : Int), 0 ≤ l.foldl (fun n k => if n < 0 then n else f k n) n → ∀ x ∈ l, P x
  | [], _, _, x, hx => by cases hx
  | a :: l, n, h, x, hx => by
    rw [List.foldl_cons] at h
    by_cases hn : n < 0
    · rw [if_pos hn, fold_neg l n hn] at h; omega
    · rw [if_neg hn] at h
      have ha : 0 ≤ f a n := by
        by_cases h0 : f a n < 0
        · rw [fold_neg l _ h0] at h; exact h
        · omega
      rcases List.mem_cons.1 hx with rfl | hx
      · exact hf _ _ ha
      · exact fold_all hf l _ h x hx

theorem left_bd : ∀ (d : Nat) (j : J) (n : Int), 0 ≤ leftI d j n → Bd d j
  | 0, _, _, h => by unfold leftI at h; omega
  | d + 1, j, n, h => by
    unfold leftI at h
    by_cases h1 : bigB j n = true
    · rw [if_pos h1] at h; omega
    rw [if_neg h1] at h
    by_cases h2 : (j.ks.all fun s => decide (s.length ≤ 200)) = false
    · rw [if_pos h2] at h; omega
    rw [if_neg h2] at h
    simp only [bigB, Bool.or_eq_true, decide_eq_true_eq, not_or, Nat.not_lt] at h1
    simp only [Bool.not_eq_false, List.all_eq_true, decide_eq_true_eq] at h2
    exact ⟨h1.1.1.2, h1.1.2, h1.2, h2, fold_all (fun k n => left_bd d k n) _ _ h⟩

theorem left_step (d : Nat) (l : List J) (i : Nat) (x : J) (h : l[i]? = some x) (n : Int) :
    (l.take (i + 1)).foldl (fun n k => if n < 0 then n else leftI d k n) n = (if (l.take i).foldl (fun n k => if n < 0 then n else leftI d k n) n < 0 then (l.take i).foldl (fun n k => if n < 0 then n else leftI d k n) n else leftI d x ((l.take i).foldl (fun n k => if n < 0 then n else leftI d k n) n)) := by
  rw [List.take_add_one, h, List.foldl_append]; rfl

theorem fold_cut (d : Nat) (l : List J) (i : Nat) (n : Int) (h : (l.take i).foldl (fun n k => if n < 0 then n else leftI d k n) n < 0) : l.foldl (fun n k => if n < 0 then n else leftI d k n) n = (l.take i).foldl (fun n k => if n < 0 then n else leftI d k n) n := by
  conv => lhs; rw [← List.take_append_drop i l]
  rw [List.foldl_append, fold_neg _ _ h]

theorem left_small : ∀ (d : Nat) (j : J) (n : Int), n ≤ 300 → -1 ≤ n → -1 ≤ leftI d j n ∧ leftI d j n ≤ 300
  | 0, _, _, _, _ => by unfold leftI; omega
  | d + 1, j, n, h1, h2 => by
    unfold leftI
    split
    · omega
    split
    · omega
    · rename_i hb _
      have hn : 1 ≤ n := by
        simp only [bigB, Bool.or_eq_true, decide_eq_true_eq, not_or] at hb; omega
      have : ∀ (l : List J) (n : Int), n ≤ 300 → -1 ≤ n → -1 ≤ l.foldl (fun n k => if n < 0 then n else leftI d k n) n ∧ l.foldl (fun n k => if n < 0 then n else leftI d k n) n ≤ 300 := by
        intro l
        induction l with
        | nil => intro n a b; exact ⟨b, a⟩
        | cons x l ih =>
          intro n a b
          rw [List.foldl_cons]
          split
          · exact ih _ a b
          · exact ih _ (left_small d x n a b).2 (left_small d x n a b).1
      exact this _ _ (by omega) (by omega)

/-! What a content has under a name; a filter's content. -/
def getJ (c : J) (key : Tx) : Option J := match c.ks.findIdx? (· == key) with
  | some i => c.l[i]?
  | none => none
def textsJ : Option J → Option (List Tx)
  | none => some []
  | some v => if v.k = 4 ∧ v.l.length ≤ 100 ∧ (v.l.all fun x => decide (x.k = 3) && decide (x.t.length ≤ 256)) = true then some (v.l.map J.t) else none
def limJ : Option J → Option Int
  | none => some 0
  | some v => if v.k = 2 ∧ 0 ≤ v.n ∧ v.n ≤ 100 then some v.n else none

abbrev kLim : Tx := [108, 105, 109, 105, 116]
abbrev kNs : Tx := [110, 111, 116, 95, 115, 101, 110, 100, 101, 114, 115]
abbrev kNt : Tx := [110, 111, 116, 95, 116, 121, 112, 101, 115]
abbrev kS : Tx := [115, 101, 110, 100, 101, 114, 115]
abbrev kT : Tx := [116, 121, 112, 101, 115]

def parseJ (c : J) : Option Fl :=
  if c.k = 5 ∧ goodB 12 c = true then
    match textsJ (getJ c kT), textsJ (getJ c kNt), textsJ (getJ c kS), textsJ (getJ c kNs), limJ (getJ c kLim) with
    | some a, some b, some d, some e, some n => some ⟨a, b, d, e, n⟩
    | _, _, _, _, _ => none
  else none

def rowJ (l : List Tx) : J := .mk 4 0 [] [] (l.map fun s => .mk 3 0 s [] [])
def numJ (n : Int) : J := .mk 2 n [] [] []
def pairJ (key : Tx) (l : List Tx) : List (Tx × J) := if l = [] then [] else [(key, rowJ l)]
def pairsJ (f : Fl) : List (Tx × J) := (if f.lim = 0 then [] else [(kLim, numJ f.lim)]) ++ pairJ kNs f.nsn ++ pairJ kNt f.nty ++ pairJ kS f.sn ++ pairJ kT f.ty
def mapJ (ps : List (Tx × J)) : J := .mk 5 0 [] (ps.map (·.1)) (ps.map (·.2))
def allV (f : Fl) : Bool := f.nsn.all vB && f.nty.all vB && f.sn.all vB && f.ty.all vB
def limB (f : Fl) : Bool := decide (0 ≤ f.lim) && decide (f.lim ≤ 100)
def contentJ (f : Fl) : Option J := if limB f = true ∧ allV f = true then some (mapJ (pairsJ f)) else none

/-! A content's row, found again. -/
theorem get_none {ps : List (Tx × J)} {key : Tx} (h : ∀ p ∈ ps, p.1 ≠ key) : getJ (mapJ ps) key = none := by
  unfold getJ mapJ J.ks
  have : (ps.map (·.1)).findIdx? (· == key) = none := by
    rw [List.findIdx?_eq_none_iff]
    intro x hx
    obtain ⟨p, hp, rfl⟩ := List.mem_map.1 hx
    simpa using h p hp
  simp only [this]

theorem get_some {as bs : List (Tx × J)} {key : Tx} {v : J} (h : ∀ p ∈ as, p.1 ≠ key) : getJ (mapJ (as ++ (key, v) :: bs)) key = some v := by
  unfold getJ mapJ J.ks J.l
  have : ((as ++ (key, v) :: bs).map (·.1)).findIdx? (· == key) = some as.length := by
    rw [List.findIdx?_eq_some_iff_getElem]
    refine ⟨by simp, by simp, fun j hj => ?_⟩
    have hj' : j < as.length := hj
    have : ((as ++ (key, v) :: bs).map (·.1))[j]'(by simp; omega) = as[j].1 := by
      rw [List.getElem_map, List.getElem_append_left hj']
    rw [this]
    simpa using h as[j] (List.getElem_mem hj')
  simp only [this]
  simp

theorem texts_row {l : List Tx} (h1 : l.length ≤ 100) (h2 : ∀ s ∈ l, s.length ≤ 256) : textsJ (some (rowJ l)) = some l := by
  unfold textsJ rowJ
  simp only [J.k, J.l, List.length_map]
  rw [if_pos ⟨trivial, h1, by
    rw [List.all_eq_true]
    intro x hx
    obtain ⟨s, hs, rfl⟩ := List.mem_map.1 hx
    simp only [J.k, J.t, decide_true, Bool.true_and]
    exact decide_eq_true (h2 s hs)⟩]
  rw [List.map_map]
  congr 1
  conv => rhs; rw [← List.map_id l]
  rfl

theorem find_pair {as bs : List (Tx × J)} {key : Tx} {l : List Tx} (h : ∀ p ∈ as ++ bs, p.1 ≠ key) (h1 : l.length ≤ 100) (h2 : ∀ s ∈ l, s.length ≤ 256) : textsJ (getJ (mapJ (as ++ pairJ key l ++ bs)) key) = some l := by
  unfold pairJ
  by_cases hl : l = []
  · subst hl
    rw [if_pos rfl, List.append_nil, get_none h]; rfl
  · rw [if_neg hl, List.append_assoc, List.singleton_append, get_some fun p hp => h p (List.mem_append_left _ hp)]
    exact texts_row h1 h2

theorem pair_key {key : Tx} {l : List Tx} : ∀ p ∈ pairJ key l, p.1 = key := by
  unfold pairJ
  split
  · intro p hp; cases hp
  · intro p hp; rw [List.mem_singleton] at hp; rw [hp]

theorem lim_key {n : Int} : ∀ p ∈ (if n = 0 then [] else [(kLim, numJ n)] : List (Tx × J)), p.1 = kLim := by
  split
  · intro p hp; cases hp
  · intro p hp; rw [List.mem_singleton] at hp; rw [hp]

theorem valid_keys : vB kLim = true ∧ vB kNs = true ∧ vB kNt = true ∧ vB kS = true ∧ vB kT = true := ⟨by decide +kernel, by decide +kernel, by decide +kernel, by decide +kernel, by decide +kernel⟩

theorem keys_sub (f : Fl) : ((pairsJ f).map (·.1)).Sublist [kLim, kNs, kNt, kS, kT] := by
  have hp : ∀ key l, ((pairJ key l).map (·.1)).Sublist [key] := fun key l => by
    unfold pairJ; split
    · exact List.nil_sublist _
    · exact List.Sublist.refl _
  have hl : ((if f.lim = 0 then [] else [(kLim, numJ f.lim)] : List (Tx × J)).map (·.1)).Sublist [kLim] := by
    split
    · exact List.nil_sublist _
    · exact List.Sublist.refl _
  unfold pairsJ
  simp only [List.map_append]
  exact (((hl.append (hp _ _)).append (hp _ _)).append (hp _ _)).append (hp _ _)

theorem named_of (f : Fl) : namedB ((pairsJ f).map (·.1)) = true := by
  have hs := keys_sub f
  have hn : [kLim, kNs, kNt, kS, kT].Nodup := by decide
  unfold namedB
  rw [decide_eq_true (hs.nodup hn), Bool.and_true, List.all_eq_true]
  intro x hx
  obtain ⟨v1, v2, v3, v4, v5⟩ := valid_keys
  have := hs.subset hx
  simp only [List.mem_cons, List.not_mem_nil, or_false] at this
  rcases this with h | h | h | h | h <;> rw [h]
  · exact v1
  · exact v2
  · exact v3
  · exact v4
  · exact v5

theorem good_row {l : List Tx} (n : Nat) : goodB (n + 2) (rowJ l) = l.all vB := by
  have h1 : shapedB (rowJ l) = true := by
    show (decide (([] : List Tx).length = 0) && decide ((0 : Int) = 0) && decide (([] : Tx) = [])) = true
    rfl
  have h2 : ∀ s : Tx, goodB (n + 1) (.mk 3 0 s [] []) = vB s := fun s => by
    show (shapedB (.mk 3 0 s [] []) && true) = vB s
    rw [Bool.and_true]
    show (true && true && vB s) = vB s
    simp
  show (shapedB (rowJ l) && (rowJ l).l.all (goodB (n + 1))) = _
  rw [h1, Bool.true_and]
  unfold rowJ J.l
  rw [List.all_map]
  congr 1
  funext s
  exact h2 s

theorem good_num {n : Int} (k : Nat) (h : 0 ≤ n) : goodB (k + 1) (numJ n) = decide (n ≤ 9007199254740991) := by
  show (shapedB (numJ n) && true) = _
  rw [Bool.and_true]
  show (true && true && decide (-9007199254740991 ≤ n) && decide (n ≤ 9007199254740991)) = _
  rw [decide_eq_true (p := -9007199254740991 ≤ n) (by omega)]; simp

theorem good_pair (key : Tx) (l : List Tx) (n : Nat) : ((pairJ key l).map (·.2)).all (goodB (n + 2)) = l.all vB := by
  unfold pairJ
  split
  · rename_i h; subst h; rfl
  · rw [List.map_cons, List.map_nil, List.all_cons, List.all_nil, Bool.and_true]; exact good_row n

theorem good_map (ps : List (Tx × J)) (n : Nat) (h : namedB (ps.map (·.1)) = true) : goodB (n + 1) (mapJ ps) = (ps.map (·.2)).all (goodB n) := by
  have : shapedB (mapJ ps) = true := by
    show (decide ((ps.map (·.1)).length = (ps.map (·.2)).length) && true && true && namedB (ps.map (·.1))) = true
    rw [h, List.length_map, List.length_map]; simp
  show (shapedB (mapJ ps) && (mapJ ps).l.all (goodB n)) = _
  rw [this, Bool.true_and]; rfl

/-- Is a filter's raw content good? -/
theorem good_content (f : Fl) (h0 : limB f = true) : goodB 12 (mapJ (pairsJ f)) = allV f := by
  rw [good_map _ 11 (named_of f)]
  simp only [limB, Bool.and_eq_true, decide_eq_true_eq] at h0
  have hl : ((if f.lim = 0 then [] else [(kLim, numJ f.lim)] : List (Tx × J)).map (·.2)).all (goodB 11) = true := by
    split
    · rfl
    · rw [List.map_cons, List.map_nil, List.all_cons, List.all_nil, Bool.and_true, good_num 10 h0.1]
      exact decide_eq_true (by omega)
  unfold pairsJ allV
  simp only [List.map_append, List.all_append]
  rw [hl, good_pair _ _ 9, good_pair _ _ 9, good_pair _ _ 9, good_pair _ _ 9, Bool.true_and]

def noFl' : Fl := ⟨[], [], [], [], 0⟩

/-- What a filter's raw content tells. -/
theorem parse_raw {f : Fl} (hf : fewB f = true) : parseJ (mapJ (pairsJ f)) = if limB f = true ∧ allV f = true then some f else none := by
  obtain ⟨q1, q2, q3, q4⟩ := few_all hf
  have s1 := short_all q1
  have s2 := short_all q2
  have s3 := short_all q3
  have s4 := short_all q4
  have nl : ∀ p ∈ (if f.lim = 0 then [] else [(kLim, numJ f.lim)] : List (Tx × J)), p.1 = kLim := lim_key
  generalize hL : (if f.lim = 0 then [] else [(kLim, numJ f.lim)] : List (Tx × J)) = L at nl
  have hp : pairsJ f = L ++ pairJ kNs f.nsn ++ pairJ kNt f.nty ++ pairJ kS f.sn ++ pairJ kT f.ty := by rw [← hL]; rfl
  have ne : ∀ {as : List (Tx × J)} {a b : Tx}, (∀ p ∈ as, p.1 = a) → a ≠ b → ∀ p ∈ as, p.1 ≠ b := fun h hn p hp e => hn (by rw [← h p hp, e])
  have g1 : textsJ (getJ (mapJ (pairsJ f)) kNs) = some f.nsn := by
    rw [hp, show L ++ pairJ kNs f.nsn ++ pairJ kNt f.nty ++ pairJ kS f.sn ++ pairJ kT f.ty = L ++ pairJ kNs f.nsn ++ (pairJ kNt f.nty ++ pairJ kS f.sn ++ pairJ kT f.ty) by simp]
    refine find_pair ?_ (by omega) fun s hs => by have := s4.2 s hs; omega
    simp only [List.mem_append]
    rintro p (h | (h | h) | h)
    · exact ne nl (by decide) p h
    · exact ne pair_key (by decide) p h
    · exact ne pair_key (by decide) p h
    · exact ne pair_key (by decide) p h
  have g2 : textsJ (getJ (mapJ (pairsJ f)) kNt) = some f.nty := by
    rw [hp, show L ++ pairJ kNs f.nsn ++ pairJ kNt f.nty ++ pairJ kS f.sn ++ pairJ kT f.ty = (L ++ pairJ kNs f.nsn) ++ pairJ kNt f.nty ++ (pairJ kS f.sn ++ pairJ kT f.ty) by simp]
    refine find_pair ?_ (by omega) fun s hs => by have := s2.2 s hs; omega
    simp only [List.mem_append]
    rintro p ((h | h) | h | h)
    · exact ne nl (by decide) p h
    · exact ne pair_key (by decide) p h
    · exact ne pair_key (by decide) p h
    · exact ne pair_key (by decide) p h
  have g3 : textsJ (getJ (mapJ (pairsJ f)) kS) = some f.sn := by
    rw [hp]
    refine find_pair ?_ (by omega) fun s hs => by have := s3.2 s hs; omega
    simp only [List.mem_append]
    rintro p (((h | h) | h) | h)
    · exact ne nl (by decide) p h
    · exact ne pair_key (by decide) p h
    · exact ne pair_key (by decide) p h
    · exact ne pair_key (by decide) p h
  have g4 : textsJ (getJ (mapJ (pairsJ f)) kT) = some f.ty := by
    rw [hp, show L ++ pairJ kNs f.nsn ++ pairJ kNt f.nty ++ pairJ kS f.sn ++ pairJ kT f.ty = (L ++ pairJ kNs f.nsn ++ pairJ kNt f.nty ++ pairJ kS f.sn) ++ pairJ kT f.ty ++ [] by simp]
    refine find_pair ?_ (by omega) fun s hs => by have := s1.2 s hs; omega
    simp only [List.mem_append, List.append_nil]
    rintro p (((h | h) | h) | h)
    · exact ne nl (by decide) p h
    · exact ne pair_key (by decide) p h
    · exact ne pair_key (by decide) p h
    · exact ne pair_key (by decide) p h
  have g5 : limJ (getJ (mapJ (pairsJ f)) kLim) = if limB f = true then some f.lim else none := by
    rw [hp, show L ++ pairJ kNs f.nsn ++ pairJ kNt f.nty ++ pairJ kS f.sn ++ pairJ kT f.ty = L ++ (pairJ kNs f.nsn ++ pairJ kNt f.nty ++ pairJ kS f.sn ++ pairJ kT f.ty) by simp]
    have hr : ∀ p ∈ pairJ kNs f.nsn ++ pairJ kNt f.nty ++ pairJ kS f.sn ++ pairJ kT f.ty, p.1 ≠ kLim := by
      simp only [List.mem_append]
      rintro p (((h | h) | h) | h) <;> exact ne pair_key (by decide) p h
    by_cases h0 : f.lim = 0
    · rw [← hL, if_pos h0, List.nil_append, get_none hr]
      have : limB f = true := by simp [limB, h0]
      rw [if_pos this, h0]; rfl
    · rw [← hL, if_neg h0]
      have := get_some (as := []) (bs := pairJ kNs f.nsn ++ pairJ kNt f.nty ++ pairJ kS f.sn ++ pairJ kT f.ty) (key := kLim) (v := numJ f.lim) (fun p hp => by cases hp)
      rw [List.nil_append] at this
      rw [List.singleton_append, this]
      by_cases h1 : limB f = true
      · rw [if_pos h1]
        simp only [limB, Bool.and_eq_true, decide_eq_true_eq] at h1
        show (if (2 : Int) = 2 ∧ 0 ≤ f.lim ∧ f.lim ≤ 100 then some f.lim else none) = _
        rw [if_pos ⟨rfl, h1⟩]
      · rw [if_neg h1]
        simp only [limB, Bool.and_eq_true, decide_eq_true_eq] at h1
        show (if (2 : Int) = 2 ∧ 0 ≤ f.lim ∧ f.lim ≤ 100 then some f.lim else none) = _
        rw [if_neg (fun h => h1 h.2)]
  unfold parseJ
  rw [g1, g2, g3, g4, g5]
  by_cases h1 : limB f = true
  · rw [good_content f h1]
    by_cases h2 : allV f = true
    · rw [if_pos ⟨rfl, h2⟩, if_pos h1, if_pos ⟨h1, h2⟩]
    · rw [if_neg (fun h => h2 h.2), if_neg (fun h => h2 h.2)]
  · rw [if_neg h1]
    rw [if_neg (c := limB f = true ∧ allV f = true) (fun h => h1 h.1)]
    split <;> rfl

end Go.Proofs.YtoimlfaiibadgaaDoor
