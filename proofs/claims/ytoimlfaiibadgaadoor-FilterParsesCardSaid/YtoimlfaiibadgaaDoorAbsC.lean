/- An abstract reading of the model's code, proved sound: part 3. -/
import Derived.Test.YtoimlfaiibadgaaDoorAbsB
import Derived.Deep.Slices
import Derived.SizedLaws
import Derived.IntWalk
import Derived.WideShapes
import Derived.ChangeShapes
import Derived.Lib.Bytealg
set_option linter.unusedSimpArgs false
set_option linter.unusedVariables false
set_option linter.all false

/- What the row reads of the arguments, as pure data. -/
namespace Go.Abs
open Go.RowKit Go.Deep

variable [Tab]

/-- Cells, read as pure data that stays. -/
structure DL (w : World) (ds : List D) (cs : List Value) : Prop where
  len : ds.length = cs.length
  cell : ∀ d ∈ ds, d.isCell = true
  dr : ∀ (i : Nat) d v, ds[i]? = some d → cs[i]? = some v → DR (Gh.still w).bd w d v

/-- What is read is no more than a machine holds. -/
def Light {H : Type} (P : Program) (t : TypeId) (d : DataW H) : Prop := ∀ n ∈ d.weights P t, n ≤ reachBytes

/-- Whatever the row reads at this type, so deep, is pure data of this kind. -/
def OpensAt (P : Program) (w : World) (t : TypeId) (A : List D → Prop) (fuel : Nat) : Prop :=
  ∀ (H : Type) (enc : TypeId × Value → H) (base : Nat) (sp : Nat → Bool) (hd : Bool) (cs : List Value) (x : DataW H × List MemPlace), DataW.trod enc P w base sp hd fuel t cs = some x → Light P t x.1 → ∃ ds, A ds ∧ DL w ds cs

/-- Whatever the row reads at this type is pure data of this kind. -/
def Opens (P : Program) (w : World) (t : TypeId) (A : List D → Prop) : Prop := ∀ fuel, OpensAt P w t A fuel

theorem DL.one {w : World} {d : D} {v : Value} (hc : d.isCell = true) (h : DR (Gh.still w).bd w d v) : DL w [d] [v] where
  len := rfl
  cell x hx := by rw [List.mem_singleton] at hx; subst hx; exact hc
  dr i x u hx hu := by
    cases i with
    | zero => simp at hx hu; subst hx hu; exact h
    | succ i => simp at hx

section
variable {P : Program} {w : World} {t : TypeId}

theorem opens_int {k : IntKind} (ht : P.underlying t = some (.int k)) : Opens P w t fun ds => ∃ n, ds = [.int k n] ∧ (Lit.int k n).wf = true := by
  intro fuel H enc base sp hd cs x h _
  obtain ⟨n, rfl, _, hw⟩ := DataW.trod_int ht h
  exact ⟨_, ⟨n, rfl, hw⟩, DL.one rfl (.int _ _)⟩

theorem opens_bool (ht : P.underlying t = some .bool) : Opens P w t fun ds => ∃ b, ds = [.bool b] := by
  intro fuel H enc base sp hd cs x h _
  obtain ⟨b, rfl, _⟩ := DataW.trod_bool ht h
  exact ⟨_, ⟨b, rfl⟩, DL.one rfl (.bool _)⟩

theorem opens_str (ht : P.underlying t = some .string) : Opens P w t fun ds => ∃ l, ds = [.str l] ∧ l.length ≤ reachBytes := by
  intro fuel H enc base sp hd cs x h hw
  obtain ⟨s, rfl, rfl, hs⟩ := DataW.trod_string ht h
  exact ⟨_, ⟨s.data.toList, rfl, hw _ (by simp [DataW.weights])⟩, DL.one rfl (.str _ _ rfl)⟩

def pack (sz : Nat) (es : List D) : D := if sz = 1 then es.headD .nilptr else .agg es

theorem pack_cells {sz : Nat} {es : List D} (hl : es.length = sz) (hc : ∀ d ∈ es, d.isCell = true) : (pack sz es).cells = es := by
  unfold pack
  split
  · rename_i h
    match es, hl with
    | [e], _ =>
      have := hc e (by simp)
      cases e <;> first | rfl | simp [D.isCell] at this
    | [], hl => simp at hl; omega
    | _ :: _ :: _, hl => simp at hl; omega
  · rfl

theorem cellAt_size {b i : Nat} {v : Value} (h : cellAt w b i = some v) : i < (Gh.still w).bd b := by
  unfold cellAt World.cell? at h
  simp only [Gh.still, blockSize]
  split at h
  · rename_i c e f hb
    simp only at hb
    rw [hb]
    simp at h
    exact (Array.getElem?_eq_some_iff.1 h).1
  · cases h

theorem light_all {H : Type} {e : TypeId} : ∀ {l : List (DataW H)} {d : DataW H}, d ∈ l → ∀ n ∈ d.weights P e, n ∈ DataW.weightsAll P e l
  | [], d, h, _, _ => by cases h
  | a :: l, d, h, n, hn => by
    simp only [DataW.weightsAll, List.mem_append]
    rcases List.mem_cons.1 h with rfl | h
    · exact .inl hn
    · exact .inr (light_all h n hn)

theorem opens_slice_at {e : TypeId} {sz : Nat} {A : List D → Prop} {fuel : Nat} (ht : P.underlying t = some (.slice e)) (hs : P.cellsOf e = sz) (hs0 : 0 < sz) (he : ∀ n, n < fuel → OpensAt P w e A n) :
    OpensAt P w t (fun ds => ∃ xs, ds = [.slice xs] ∧ xs.length ≤ maxLen ∧ ∀ x ∈ xs, ∃ es, A es ∧ es.length = sz ∧ x = pack sz es) fuel := by
  intro H enc base sp hd cs x h hw
  rcases DataW.trod_slice ht h with ⟨rfl, _⟩ | ⟨a, len, cap, elems, rest, n, hfu, rfl, rfl, hb, hl, hm, hlen, hel, _, _⟩
  · exact ⟨_, ⟨[], rfl, Nat.zero_le _, by simp⟩, DL.one rfl .slnil⟩
  · rw [hs] at hel
    by_cases h0 : len = 0
    · subst h0
      exact ⟨_, ⟨[], rfl, Nat.zero_le _, by simp⟩, DL.one rfl (.sle _ _)⟩
    · have key : ∀ i, i < len → ∃ es cs', A es ∧ DL w es cs' ∧ es.length = sz ∧ w.cells? base (a.add (i * sz)) sz = some cs' := fun i hi => by
        have h1 := hel i hi
        rw [List.getElem?_eq_getElem (by omega)] at h1
        obtain ⟨cs', h1, h2⟩ := Option.bind_eq_some_iff.1 h1
        have hmem : elems[i].1 ∈ elems.map (·.1) := List.mem_map.2 ⟨_, List.getElem_mem _, rfl⟩
        obtain ⟨es, h3, h4⟩ := he n (by omega) H enc base sp hd cs' _ h2 fun k hk => hw k (by
          simp only [DataW.weights, ht, List.mem_cons, List.mem_append]
          exact .inr (.inl (light_all hmem k hk)))
        have hlen := (World.cells?_some h1).2.1
        exact ⟨es, cs', h3, h4, by rw [h4.len, hlen], h1⟩
      have hsp : a.spot = none := by
        obtain ⟨es, cs', _, _, _, h1⟩ := key 0 (by omega)
        obtain ⟨_, hlen, hc⟩ := World.cells?_some h1
        have hc0 := hc 0 hs0
        simp only [Nat.zero_mul, Addr.add, if_true] at hc0
        unfold World.cell? at hc0
        cases hspot : a.spot with
        | none => rfl
        | some q =>
          rw [hspot] at hc0
          simp at hc0
          split at hc0
          · have : cs'[0]? = none := hc0.symm
            rw [List.getElem?_eq_none_iff] at this; omega
          · have : cs'[0]? = none := hc0.symm
            rw [List.getElem?_eq_none_iff] at this; omega
      obtain ⟨b, off, sp'⟩ := a
      simp only at hsp; subst hsp
      have hadd : ∀ i, (⟨b, off, none⟩ : Addr).add i = ⟨b, off + i, none⟩ := fun i => by
        unfold Addr.add; split
        · rename_i h; subst h; rfl
        · rfl
      have key : ∀ i, i < len → ∃ es cs', A es ∧ DL w es cs' ∧ es.length = sz ∧ w.cells? base (⟨b, off + i * sz, none⟩ : Addr) sz = some cs' := fun i hi => by
        have := key i hi
        rw [hadd] at this
        exact this
      let f : Nat → List D := fun i => if hi : i < len then Classical.choose (key i hi) else []
      have hf : ∀ i, i < len → ∃ cs', A (f i) ∧ DL w (f i) cs' ∧ (f i).length = sz ∧ w.cells? base (⟨b, off + i * sz, none⟩ : Addr) sz = some cs' := fun i hi => by
        have := Classical.choose_spec (key i hi)
        simpa only [f, dif_pos hi] using this
      have hcell : ∀ i j, i < len → j < sz → ∃ v, cellAt w b (off + (i * sz + j)) = some v ∧ ∀ d, (f i)[j]? = some d → DR (Gh.still w).bd w d v := fun i j hi hj => by
        obtain ⟨cs', h1, h2, h3, h4⟩ := hf i hi
        obtain ⟨_, h5, h6⟩ := World.cells?_some h4
        have h7 := h6 j hj
        rw [List.getElem?_eq_getElem (by omega)] at h7
        have h8 : cellAt w b (off + (i * sz + j)) = some (cs'[j]'(by omega)) := by
          rw [← h7]
          unfold cellAt
          have : ((⟨b, off + i * sz, none⟩ : Addr).add j) = ⟨b, off + (i * sz + j), none⟩ := by
            unfold Addr.add; split
            · rename_i h; subst h; rfl
            · simp [Nat.add_assoc]
          rw [this]
        exact ⟨_, h8, fun d hd => h2.dr j d _ hd (List.getElem?_eq_getElem (by omega))⟩
      have hget : ∀ (i : Nat) x, ((List.range len).map fun i => pack sz (f i))[i]? = some x → i < len ∧ x = pack sz (f i) := fun i x hx => by
        simp only [List.getElem?_map, Option.map_eq_some_iff] at hx
        obtain ⟨k, hk, rfl⟩ := hx
        have hk' := List.getElem?_eq_some_iff.1 hk
        obtain ⟨q1, q2⟩ := hk'
        simp at q1 q2
        subst q2
        exact ⟨q1, rfl⟩
      have hpc : ∀ i, i < len → (pack sz (f i)).cells = f i := fun i hi => by
        obtain ⟨cs', h1, h2, h3, h4⟩ := hf i hi
        exact pack_cells h3 h2.cell
      refine ⟨[.slice ((List.range len).map fun i => pack sz (f i))], ⟨_, rfl, by simp; omega, fun x hx => ?_⟩, DL.one rfl ?_⟩
      · obtain ⟨i, hi, rfl⟩ := List.mem_map.1 hx
        have hi' : i < len := by simpa using hi
        obtain ⟨cs', h1, h2, h3, h4⟩ := hf i hi'
        exact ⟨f i, h1, h3, rfl⟩
      · refine .slice _ b off len cap sz (fun k => (cellAt w b (off + k)).getD undef) (by simp) hl (fun x hx => ?_) (fun x hx c hc => ?_) (fun k hk => ?_) (fun i j x c hx hc => ?_)
        · obtain ⟨i, hi, rfl⟩ := List.mem_map.1 hx
          have hi' : i < len := by simpa using hi
          rw [hpc i hi']
          exact (hf i hi').choose_spec.2.2.1
        · obtain ⟨i, hi, rfl⟩ := List.mem_map.1 hx
          have hi' : i < len := by simpa using hi
          rw [hpc i hi'] at hc
          exact (hf i hi').choose_spec.2.1.cell c hc
        · simp only [List.length_map, List.length_range] at hk
          have e : k = k / sz * sz + k % sz := by rw [Nat.mul_comm]; exact (Nat.div_add_mod k sz).symm
          have hi : k / sz < len := Nat.div_lt_of_lt_mul (by rw [Nat.mul_comm]; exact hk)
          obtain ⟨v, h1, _⟩ := hcell (k / sz) (k % sz) hi (Nat.mod_lt _ hs0)
          rw [← e] at h1
          exact ⟨cellAt_size h1, by rw [h1]; rfl⟩
        · obtain ⟨hi, rfl⟩ := hget i x hx
          rw [hpc i hi] at hc
          have hj : j < sz := by rw [← (hf i hi).choose_spec.2.2.1]; exact (List.getElem?_eq_some_iff.1 hc).1
          obtain ⟨v, h1, h2⟩ := hcell i j hi hj
          simp only [h1, Option.getD_some]
          exact h2 c hc

theorem opens_slice {e : TypeId} {sz : Nat} {A : List D → Prop} (ht : P.underlying t = some (.slice e)) (hs : P.cellsOf e = sz) (hs0 : 0 < sz) (he : Opens P w e A) :
    Opens P w t fun ds => ∃ xs, ds = [.slice xs] ∧ xs.length ≤ maxLen ∧ ∀ x ∈ xs, ∃ es, A es ∧ es.length = sz ∧ x = pack sz es := fun fuel => opens_slice_at ht hs hs0 fun n _ => he n

/-- Fields that lie one behind the other. -/
def FOpensAt (P : Program) (w : World) (fuel : Nat) : Nat → List Field → List (List D → Prop) → Prop
  | _, [], [] => True
  | o, f :: fs, A :: As => f.offset = o ∧ (∀ n, n < fuel → OpensAt P w f.type A n) ∧ FOpensAt P w fuel (o + P.cellsOf f.type) fs As
  | _, _, _ => False

/-- Fields that lie one behind the other. -/
def FOpens (P : Program) (w : World) : Nat → List Field → List (List D → Prop) → Prop
  | _, [], [] => True
  | o, f :: fs, A :: As => f.offset = o ∧ Opens P w f.type A ∧ FOpens P w (o + P.cellsOf f.type) fs As
  | _, _, _ => False

theorem FOpens.at {fuel : Nat} : ∀ {fs : List Field} {As : List (List D → Prop)} {o : Nat}, FOpens P w o fs As → FOpensAt P w fuel o fs As
  | [], [], _, _ => trivial
  | _ :: _, _ :: _, _, h => ⟨h.1, fun n _ => h.2.1 n, FOpens.at h.2.2⟩
  | [], _ :: _, _, h => h.elim
  | _ :: _, [], _, h => h.elim

def cat : List (List D → Prop) → List D → Prop
  | [], ds => ds = []
  | A :: As, ds => ∃ d1 d2, ds = d1 ++ d2 ∧ A d1 ∧ cat As d2

def total (P : Program) : List Field → Nat
  | [] => 0
  | f :: fs => P.cellsOf f.type + total P fs

theorem DL.append {ds es : List D} {cs us : List Value} (h : DL w ds cs) (k : DL w es us) : DL w (ds ++ es) (cs ++ us) where
  len := by simp [h.len, k.len]
  cell d hd := by rw [List.mem_append] at hd; exact hd.elim (h.cell d) (k.cell d)
  dr i d v hd hv := by
    rcases Nat.lt_or_ge i ds.length with hi | hi
    · rw [List.getElem?_append_left hi] at hd
      rw [List.getElem?_append_left (by rw [← h.len]; exact hi)] at hv
      exact h.dr i d v hd hv
    · rw [List.getElem?_append_right hi] at hd
      rw [List.getElem?_append_right (by rw [← h.len]; exact hi), ← h.len] at hv
      exact k.dr _ d v hd hv

theorem opens_fields {H : Type} {enc : TypeId × Value → H} {base : Nat} {sp : Nat → Bool} {hd : Bool} {n N : Nat} (hn : n < N) {cs : List Value} : ∀ (fs : List Field) (As : List (List D → Prop)) (o : Nat), FOpensAt P w N o fs As → o + total P fs = cs.length →
    (∀ f ∈ fs, ∃ x, DataW.trod enc P w base sp hd n f.type ((cs.drop f.offset).take (P.cellsOf f.type)) = some x ∧ Light P f.type x.1) → ∃ ds, cat As ds ∧ DL w ds (cs.drop o)
  | [], [], o, _, hl, _ => ⟨[], rfl, by
      have : cs.drop o = [] := List.drop_eq_nil_of_le (by simp [total] at hl; omega)
      rw [this]
      exact ⟨rfl, by simp, fun i d v h => by simp at h⟩⟩
  | f :: fs, A :: As, o, h, hl, hx => by
    obtain ⟨h1, h2, h3⟩ := h
    obtain ⟨x, hx0, hx1⟩ := hx f (by simp)
    obtain ⟨d1, q1, q2⟩ := h2 n hn H enc base sp hd _ _ hx0 hx1
    obtain ⟨d2, q3, q4⟩ := opens_fields hn fs As _ h3 (by simp only [total] at hl; omega) fun f hf => hx f (by simp [hf])
    refine ⟨d1 ++ d2, ⟨d1, d2, rfl, q1, q3⟩, ?_⟩
    have e : cs.drop o = (cs.drop f.offset).take (P.cellsOf f.type) ++ cs.drop (o + P.cellsOf f.type) := by
      rw [h1, ← List.drop_drop, List.take_append_drop]
    rw [e]
    exact q2.append q4
  | [], _ :: _, _, h, _, _ => h.elim
  | _ :: _, [], _, h, _, _ => h.elim

theorem opens_struct_at {fs : Array Field} {As : List (List D → Prop)} {fuel : Nat} (ht : P.underlying t = some (.struct fs)) (hf : FOpensAt P w fuel 0 fs.toList As) (hs : total P fs.toList = P.cellsOf t) : OpensAt P w t (cat As) fuel := by
  intro H enc base sp hd cs x h hw
  obtain ⟨xs, n, hfu, rfl, hl, hxl, hx⟩ := DataW.trod_struct ht h
  obtain ⟨ds, h1, h2⟩ := opens_fields (enc := enc) (base := base) (sp := sp) (hd := hd) (n := n) (N := fuel) (by omega) (cs := cs) fs.toList As 0 hf (by rw [hs, hl]; omega) fun f hf => by
    obtain ⟨i, hi⟩ := List.mem_iff_getElem?.1 hf
    have hi' : fs[i]? = some f := by simpa using hi
    have := hx i f hi'
    have hlt : i < xs.length := by rw [hxl]; exact (Array.getElem?_eq_some_iff.1 hi').1
    rw [List.getElem?_eq_getElem hlt] at this
    refine ⟨_, this, fun k hk => hw k ?_⟩
    simp only [DataW.weights, ht]
    exact DataW.weights_mem_each (j := i) (by simp [hi']) (by simp [List.getElem?_eq_getElem hlt]) k hk
  exact ⟨ds, h1, by simpa using h2⟩

theorem opens_struct {fs : Array Field} {As : List (List D → Prop)} (ht : P.underlying t = some (.struct fs)) (hf : FOpens P w 0 fs.toList As) (hs : total P fs.toList = P.cellsOf t) : Opens P w t (cat As) := fun _ => opens_struct_at ht hf.at hs

/-- From the still world: nothing that was is touched. -/
theorem still_below {g' : Gh} {w' : World} (h : WF (Gh.still w) w g' w') : Below w.heap.size w w' :=
  ⟨h.os, h.tape, h.output, h.size, fun k hk => (h.idle k hk (.inl rfl)).1⟩

end

end Go.Abs

/- From the abstract answer to the call that a row asks for. -/
namespace Go.Abs
open Go.RowKit

variable [Tab]

theorem arg_vr {w : World} {d : D} {v : Value} (h : DL w [d] [v]) : VR (Gh.still w) w (.d d) v ∧ Triv (.d d) v := ⟨.d _ _ (h.dr 0 d v rfl rfl), Triv.d _ _⟩

theorem int_arg (w : World) (k : IntKind) (n : Int) : VR (Gh.still w) w (.d (.int k n)) (.int k n) ∧ Triv (.d (.int k n)) (.int k n) := ⟨.d _ _ (.int _ _), Triv.d _ _⟩
theorem bool_arg (w : World) (b : Bool) : VR (Gh.still w) w (.d (.bool b)) (.bool b) ∧ Triv (.d (.bool b)) (.bool b) := ⟨.d _ _ (.bool _), Triv.d _ _⟩
theorem str_arg (w : World) (s : ByteArray) : VR (Gh.still w) w (.d (.str s.data.toList)) (.string s) ∧ Triv (.d (.str s.data.toList)) (.string s) := ⟨.d _ _ (.str _ _ rfl), Triv.d _ _⟩

/-- The arguments, one by one. -/
def ArgsOK (w : World) : List AV → List Value → Prop
  | [], [] => True
  | x :: xs, v :: vs => (VR (Gh.still w) w x v ∧ Triv x v) ∧ ArgsOK w xs vs
  | _, _ => False

theorem ArgsOK.get {w : World} : ∀ {xs : List AV} {vs : List Value}, ArgsOK w xs vs → xs.length = vs.length ∧ ∀ (i : Nat) x v, xs[i]? = some x → vs[i]? = some v → VR (Gh.still w) w x v ∧ Triv x v
  | [], [], _ => ⟨rfl, fun i x v h => by simp at h⟩
  | x :: xs, v :: vs, h => by
    obtain ⟨h1, h2⟩ := ArgsOK.get h.2
    refine ⟨by simp [h1], fun i y u hy hu => ?_⟩
    cases i with
    | zero => simp at hy hu; subst hy hu; exact h.1
    | succ i => exact h2 i y u (by simpa using hy) (by simpa using hu)

/-- The tables stand in memory. -/
def TabOK (w : World) : Prop := ∀ n cs, Tab.tab n = some cs → VR (Gh.still w) w (.pref cs) (.pointer (some ⟨n, 0, none⟩))

/-- The call that a row asks for. -/
theorem law_calls {P : Program} {code : FuncId → Option CFn} {prim : FuncId → Option AFun} (hmx : P.follows .mixedOrders = true) (hc : CodeOK P code) (hp : ∀ f F, prim f = some F → FSound P f F) {k : Nat} {f : FuncId} {args : List AV} {b : Bool}
    (hpf : prim f = none) (h : envN code prim k f 0 args [] = some (.d (.bool b), [])) {vals : Array Value} {w : World} (hG : TabOK w) (hv : ArgsOK w args vals.toList) : Calls P f vals w fun e w' => e = .returned (.bool b) ∧ Below w.heap.size w w' := by
  obtain ⟨h1, h2⟩ := hv.get
  refine Calls.mono (run_sound hmx hc hp hpf h (still_heap w hG) (fun b => by simp [Gh.still]) (by simpa using h1) fun i x v hx hv => h2 i x v hx (by simpa using hv)) ?_
  rintro e w' ⟨v, g', rfl, hw, hvr⟩
  exact ⟨by rw [bool_val hvr], still_below hw⟩

/-- No function stands for itself. -/
def noPrim : FuncId → Option AFun := fun _ => none
theorem noPrim_ok (P : Program) : ∀ f F, noPrim f = some F → FSound P f F := fun f F h => by cases h

/-- A row of functions as they were read. -/
def AllOK (P : Program) : Nat → List (Option CFn) → Prop
  | _, [] => True
  | n, none :: l => AllOK P (n + 1) l
  | n, some c :: l => (∃ tk keep kp, compileFn P tk keep kp n = some c) ∧ AllOK P (n + 1) l

theorem AllOK.get {P : Program} : ∀ {l : List (Option CFn)} {n : Nat}, AllOK P n l → ∀ (i : Nat) c, l[i]? = some (some c) → ∃ tk keep kp, compileFn P tk keep kp (n + i) = some c
  | [], _, _, i, c, h => by simp at h
  | none :: l, n, hl, i, c, h => by
    cases i with
    | zero => simp at h
    | succ i => have := AllOK.get (l := l) (n := n + 1) hl i c (by simpa using h); rwa [Nat.add_assoc, Nat.add_comm 1 i] at this
  | some d :: l, n, hl, i, c, h => by
    cases i with
    | zero => simp at h; subst h; exact hl.1
    | succ i => have := AllOK.get (l := l) (n := n + 1) hl.2 i c (by simpa using h); rwa [Nat.add_assoc, Nat.add_comm 1 i] at this

theorem codeOK_of {P : Program} {l : List (Option CFn)} (h : AllOK P 0 l) : CodeOK P fun f => (l[f]?).join := by
  intro f c hc
  have hc : (l[f]?).join = some c := hc
  have : l[f]? = some (some c) := by
    cases e : l[f]? with
    | none => rw [e] at hc; cases hc
    | some x => rw [e] at hc; simp at hc; rw [hc]
  have := h.get f c this
  rwa [Nat.zero_add] at this

end Go.Abs

/- Walking the abstract code: what a piece of code comes to, at every depth from some one on. -/
namespace Go.Abs

variable [Tab]

section
variable (X : Nat → AEnv)

/-- A call's answer, at every depth from some one on. -/
def Ev (f : FuncId) (lim : Nat) (args : List AV) (H : AHeap) (v : AV) (H' : AHeap) : Prop :=
  ∃ k0, ∀ k, k0 ≤ k → X k f lim args H = some (v, H')

/-- A call that answers so. -/
def Fn (f : FuncId) (lim : Nat) (args : List AV) (H : AHeap) (Q : AV → AHeap → Prop) : Prop :=
  ∃ v H', Ev X f lim args H v H' ∧ Q v H'

/-- A piece of code comes to an end of this kind. -/
def W (lim : Nat) (c : CCode) (st : St) (Q : AExit → St → Prop) : Prop :=
  ∃ e st', (∃ k0, ∀ k n, k0 ≤ k → k0 ≤ n → evalC (X k) lim (fun b s => loopN b n s) c st = some (e, st')) ∧ Q e st'

/-- Operations in the text's order. -/
def WO (lim : Nat) (ops : List COper) (st : St) (Q : St → Prop) : Prop :=
  ∃ st', (∃ k0, ∀ k, k0 ≤ k → runOps (X k) lim ops st = some st') ∧ Q st'

variable {X} {lim : Nat}

theorem Ev.fn {f : FuncId} {args : List AV} {H H' : AHeap} {v : AV} {Q : AV → AHeap → Prop} (h : Ev X f lim args H v H') (hq : Q v H') : Fn X f lim args H Q := ⟨v, H', h, hq⟩

theorem Fn.mono {f : FuncId} {args : List AV} {H : AHeap} {Q Q' : AV → AHeap → Prop} (h : Fn X f lim args H Q) (hq : ∀ v H', Q v H' → Q' v H') : Fn X f lim args H Q' := by
  obtain ⟨v, H', h1, h2⟩ := h
  exact ⟨v, H', h1, hq _ _ h2⟩

theorem W.mono {c : CCode} {st : St} {Q Q' : AExit → St → Prop} (h : W X lim c st Q) (hq : ∀ e s, Q e s → Q' e s) : W X lim c st Q' := by
  obtain ⟨e, s, h1, h2⟩ := h
  exact ⟨e, s, h1, hq _ _ h2⟩

theorem WO.mono {ops : List COper} {st : St} {Q Q' : St → Prop} (h : WO X lim ops st Q) (hq : ∀ s, Q s → Q' s) : WO X lim ops st Q' := by
  obtain ⟨s, h1, h2⟩ := h
  exact ⟨s, h1, hq _ h2⟩

theorem W_skip {st : St} {Q : AExit → St → Prop} (h : Q .normal st) : W X lim .skip st Q := ⟨_, _, ⟨0, fun k n _ _ => rfl⟩, h⟩
theorem W_exit {id : Nat} {st : St} {Q : AExit → St → Prop} (h : Q (.exit id) st) : W X lim (.exit id) st Q := ⟨_, _, ⟨0, fun k n _ _ => rfl⟩, h⟩
theorem W_ret {st : St} {Q : AExit → St → Prop} (h : Q .ret st) : W X lim .ret st Q := ⟨_, _, ⟨0, fun k n _ _ => rfl⟩, h⟩

theorem W_seq {a b : CCode} {st : St} {Q : AExit → St → Prop} (h : W X lim a st fun e s => (e = .normal → W X lim b s Q) ∧ (e ≠ .normal → Q e s)) : W X lim (.seq a b) st Q := by
  obtain ⟨e, s, ⟨k1, h1⟩, h2, h3⟩ := h
  by_cases he : e = .normal
  · subst he
    obtain ⟨e', s', ⟨k2, h4⟩, h5⟩ := h2 rfl
    refine ⟨e', s', ⟨k1 + k2, fun k n hk hn => ?_⟩, h5⟩
    simp only [evalC, h1 k n (by omega) (by omega)]
    exact h4 k n (by omega) (by omega)
  · refine ⟨e, s, ⟨k1, fun k n hk hn => ?_⟩, h3 he⟩
    simp only [evalC, h1 k n hk hn]
    split
    · rename_i heq; simp at heq; exact absurd heq.1 he
    · rfl

theorem W_cond {c : Opd} {a b : CCode} {st : St} {Q : AExit → St → Prop} (t : Bool) (hc : evx st.T [] c = .d (.bool t)) (h : W X lim (if t = true then a else b) st Q) : W X lim (.cond c a b) st Q := by
  obtain ⟨e, s, ⟨k1, h1⟩, h2⟩ := h
  refine ⟨e, s, ⟨k1, fun k n hk hn => ?_⟩, h2⟩
  have := h1 k n hk hn
  simp only [evalC, hc]
  cases t <;> simpa using this

theorem W_block {id : Nat} {a : CCode} {st : St} {Q : AExit → St → Prop} (h : W X lim a st fun e s => (e = .exit id → Q .normal s) ∧ (e ≠ .exit id → Q e s)) : W X lim (.block id a) st Q := by
  obtain ⟨e, s, ⟨k1, h1⟩, h2, h3⟩ := h
  by_cases he : e = .exit id
  · subst he
    refine ⟨_, s, ⟨k1, fun k n hk hn => ?_⟩, h2 rfl⟩
    simp only [evalC, h1 k n hk hn, if_true]
  · refine ⟨e, s, ⟨k1, fun k n hk hn => ?_⟩, h3 he⟩
    simp only [evalC, h1 k n hk hn]
    split
    · rename_i heq
      simp only [Option.some.injEq, Prod.mk.injEq] at heq
      obtain ⟨rfl, rfl⟩ := heq
      split
      · rename_i hi; subst hi; exact absurd rfl he
      · rfl
    · rfl

/-- A loop, by what holds at each of its rounds, and how many more there are at most. -/
theorem W_loop {a : CCode} {Q : AExit → St → Prop} (I : Nat → St → Prop) (h : ∀ n st, I n st → W X lim a st fun e s => (e = .normal → ∃ m, m < n ∧ I m s) ∧ (e ≠ .normal → Q e s)) :
    ∀ n st, I n st → W X lim (.loop a) st Q := by
  have key : ∀ n st, I n st → ∃ e s, (∃ k0, ∀ k n m, k0 ≤ k → k0 ≤ n → k0 ≤ m → loopN (fun s => match evalC (X k) lim (fun b s => loopN b n s) a s with
      | some (.normal, s') => some (.inl s')
      | some r => some (.inr r)
      | none => none) m st = some (e, s)) ∧ Q e s := by
    intro n
    induction n using Nat.strongRecOn with
    | _ n ih =>
      intro st hi
      obtain ⟨e, s, ⟨k1, h1⟩, h2, h3⟩ := h n st hi
      by_cases he : e = .normal
      · subst he
        obtain ⟨m, hm, hi'⟩ := h2 rfl
        obtain ⟨e', s', ⟨k2, h4⟩, h5⟩ := ih m hm s hi'
        refine ⟨e', s', ⟨k1 + k2 + 1, fun k n m hk hn hm => ?_⟩, h5⟩
        obtain ⟨m, rfl⟩ : ∃ p, m = p + 1 := ⟨m - 1, by omega⟩
        simp only [loopN, h1 k n (by omega) (by omega)]
        exact h4 k n m (by omega) (by omega) (by omega)
      · refine ⟨e, s, ⟨k1 + 1, fun k n m hk hn hm => ?_⟩, h3 he⟩
        obtain ⟨m, rfl⟩ : ∃ p, m = p + 1 := ⟨m - 1, by omega⟩
        simp only [loopN, h1 k n (by omega) (by omega)]
        split
        · rename_i heq
          split at heq
          · rename_i heq'; simp at heq'; exact absurd heq'.1 he
          · simp at heq
          · simp at heq
        · rename_i heq
          split at heq
          · rename_i heq'; simp at heq'; exact absurd heq'.1 he
          · rename_i heq'
            simp only [Option.some.injEq, Sum.inr.injEq] at heq heq'
            rw [← heq, ← heq']
          · simp at heq
        · rename_i heq
          split at heq
          · simp at heq
          · simp at heq
          · rename_i heq'; simp at heq'
  intro n st hi
  obtain ⟨e, s, ⟨k0, h1⟩, h2⟩ := key n st hi
  exact ⟨e, s, ⟨k0, fun k n hk hn => h1 k n n hk hn hn⟩, h2⟩

theorem W_region {ops : List COper} {fg : List Nat} {st : St} {Q : AExit → St → Prop} (h : WO X lim ops st fun s => Q .normal ⟨forgetT s.T fg, s.H⟩) : W X lim (.region ops none fg) st Q := by
  obtain ⟨s, ⟨k1, h1⟩, h2⟩ := h
  refine ⟨_, _, ⟨k1, fun k n hk hn => ?_⟩, h2⟩
  simp only [evalC, evalR, h1 k hk]

theorem W_draw {ops : List COper} {chk : Option Chk} {fg : List Nat} {st st' : St} {Q : AExit → St → Prop} (h : ∃ k0, ∀ k, k0 ≤ k → evalR (X k) lim ops chk fg st = some st') (hq : Q .normal st') : W X lim (.region ops chk fg) st Q := by
  obtain ⟨k1, h1⟩ := h
  refine ⟨_, _, ⟨k1, fun k n hk hn => ?_⟩, hq⟩
  simp only [evalC, h1 k hk]

theorem WO_nil {st : St} {Q : St → Prop} (h : Q st) : WO X lim [] st Q := ⟨_, ⟨0, fun k _ => rfl⟩, h⟩

theorem WO_cons {o : COper} {os : List COper} {st st' : St} {Q : St → Prop} (h : ∀ E, stepOp E lim o st = some st') (k : WO X lim os st' Q) : WO X lim (o :: os) st Q := by
  obtain ⟨s, ⟨k1, h1⟩, h2⟩ := k
  refine ⟨s, ⟨k1, fun k hk => ?_⟩, h2⟩
  simp only [runOps, h]
  exact h1 k hk

theorem WO_call {dst : Option Nat} {cons : List Nat} {f : FuncId} {args : List Opd} {os : List COper} {st : St} {Q : St → Prop}
    (h : Fn X f lim (args.map (evx st.T cons)) st.H fun v H' => WO X lim os ⟨put (unflag st.T cons) dst v, H'⟩ Q) : WO X lim (⟨dst, .call f args, none, cons⟩ :: os) st Q := by
  obtain ⟨v, H', ⟨k1, h1⟩, s, ⟨k2, h2⟩, h3⟩ := h
  refine ⟨s, ⟨k1 + k2, fun k hk => ?_⟩, h3⟩
  simp only [runOps, stepOp, wanted, aop, h1 k (by omega)]
  exact h2 k (by omega)

theorem WO_callV {dst : Option Nat} {cons : List Nat} {x : Opd} {f : FuncId} {caps : List AV} {args : List Opd} {os : List COper} {st : St} {Q : St → Prop} (hx : evx st.T cons x = .func (.func f) caps)
    (h : Fn X f lim (args.map (evx st.T cons) ++ caps) st.H fun v H' => WO X lim os ⟨put (unflag st.T cons) dst v, H'⟩ Q) : WO X lim (⟨dst, .callV x args, none, cons⟩ :: os) st Q := by
  obtain ⟨v, H', ⟨k1, h1⟩, s, ⟨k2, h2⟩, h3⟩ := h
  refine ⟨s, ⟨k1 + k2, fun k hk => ?_⟩, h3⟩
  simp only [runOps, stepOp, wanted, aop, hx, h1 k (by omega)]
  exact h2 k (by omega)

/-- An operation with a guard that is not wanted. -/
theorem WO_off {o : COper} {os : List COper} {st : St} {Q : St → Prop} (h : wanted st.T o.guard = some false) (k : WO X lim os ⟨put st.T o.dst (.tuple []), st.H⟩ Q) : WO X lim (o :: os) st Q :=
  WO_cons (fun E => by simp only [stepOp, h]) k

/-- The same as without its guard. -/
theorem WO_on {dst : Option Nat} {op : COp} {g : Nat × Bool} {cons : List Nat} {os : List COper} {st : St} {Q : St → Prop} (h : wanted st.T (some g) = some true) (k : WO X lim (⟨dst, op, none, cons⟩ :: os) st Q) : WO X lim (⟨dst, op, some g, cons⟩ :: os) st Q := by
  obtain ⟨s, ⟨k1, h1⟩, h2⟩ := k
  refine ⟨s, ⟨k1, fun k hk => ?_⟩, h2⟩
  have := h1 k hk
  simp only [runOps, stepOp, wanted] at this
  simp only [runOps, stepOp, h]
  exact this

end

section
variable {code : FuncId → Option CFn} {prim : FuncId → Option AFun} {lim : Nat}

/-- What a function's end answers. -/
def Answers (fn : CFn) (H : AHeap) (Q : AV → AHeap → Prop) (e : AExit) (s : St) : Prop :=
  (∀ i, e ≠ .exit i) ∧ ∃ vs, resV s.T s.H fn.res = some vs ∧ if fn.keep then Q (oneOf vs) s.H else ∃ v, freeze s.H H.length (oneOf vs) = some v ∧ Q v H

theorem Fn_code {f : FuncId} {fn : CFn} {args : List AV} {H : AHeap} {Q : AV → AHeap → Prop} (hp : prim f = none) (hc : code f = some fn) (hl : args.length = fn.nargs)
    (h : W (envN code prim) (if fn.keep then lim else H.length) fn.body ⟨args ++ List.replicate (fn.ntmps - args.length) (.tuple []), H⟩ (Answers fn H Q)) : Fn (envN code prim) f lim args H Q := by
  obtain ⟨e, s, ⟨k0, h1⟩, h2, vs, h3, h4⟩ := h
  have key : ∀ k, k0 + 1 ≤ k → envN code prim k f lim args H = if fn.keep then some (oneOf vs, s.H) else (freeze s.H H.length (oneOf vs)).map (·, H) := by
    intro k hk
    obtain ⟨k, rfl⟩ : ∃ p, k = p + 1 := ⟨k - 1, by omega⟩
    have h5 := h1 k k (by omega) (by omega)
    simp only [envN, hp, hc, evalF, hl, if_true]
    rw [hl] at h5
    rw [h5]
    cases e with
    | exit i => exact absurd rfl (h2 i)
    | normal => simp only [h3]
    | ret => simp only [h3]
  by_cases hk : fn.keep = true
  · rw [if_pos hk] at h4
    refine ⟨oneOf vs, s.H, ⟨k0 + 1, fun k h => ?_⟩, h4⟩
    rw [key k h, if_pos hk]
  · rw [if_neg hk] at h4
    obtain ⟨v, h5, h6⟩ := h4
    refine ⟨v, H, ⟨k0 + 1, fun k h => ?_⟩, h6⟩
    rw [key k h, if_neg hk, h5]
    rfl

/-- A run told by the kernel. -/
theorem Ev.at {X : Nat → AEnv} {f : FuncId} {args : List AV} {H H' : AHeap} {v : AV} (h : Ev X f lim args H v H') : ∃ k, X k f lim args H = some (v, H') := by
  obtain ⟨k, h⟩ := h
  exact ⟨k, h k (Nat.le_refl _)⟩

end



section
variable (X : Nat → AEnv) (lim : Nat)

def seqK (b : CCode) (Q : AExit → St → Prop) : AExit → St → Prop
  | .normal, s => W X lim b s Q
  | .exit i, s => Q (.exit i) s
  | .ret, s => Q .ret s

def blockK (id : Nat) (Q : AExit → St → Prop) : AExit → St → Prop
  | .exit i, s => if i = id then Q .normal s else Q (.exit i) s
  | .normal, s => Q .normal s
  | .ret, s => Q .ret s

def loopK (I : Nat → St → Prop) (n : Nat) (Q : AExit → St → Prop) : AExit → St → Prop
  | .normal, s => ∃ m, m < n ∧ I m s
  | .exit i, s => Q (.exit i) s
  | .ret, s => Q .ret s

/-- What a function's end answers. -/
def ansK (keep : Bool) (res : List CRes) (H : AHeap) (Q : AV → AHeap → Prop) : AExit → St → Prop
  | .exit _, _ => False
  | .normal, s => ∃ vs, resV s.T s.H res = some vs ∧ if keep = true then Q (oneOf vs) s.H else ∃ v, freeze s.H H.length (oneOf vs) = some v ∧ Q v H
  | .ret, s => ∃ vs, resV s.T s.H res = some vs ∧ if keep = true then Q (oneOf vs) s.H else ∃ v, freeze s.H H.length (oneOf vs) = some v ∧ Q v H

variable {X} {lim}

theorem W_sq {a b : CCode} {st : St} {Q : AExit → St → Prop} (h : W X lim a st (seqK X lim b Q)) : W X lim (.seq a b) st Q :=
  W_seq (h.mono fun e s hq => ⟨fun he => by subst he; exact hq, fun he => by cases e <;> first | exact absurd rfl he | exact hq⟩)

theorem W_bk {id : Nat} {a : CCode} {st : St} {Q : AExit → St → Prop} (h : W X lim a st (blockK id Q)) : W X lim (.block id a) st Q :=
  W_block (h.mono fun e s hq => ⟨fun he => by subst he; simpa [blockK] using hq, fun he => by
    cases e with
    | exit i =>
      simp only [blockK] at hq
      rw [if_neg (fun h => he (by rw [h]))] at hq
      exact hq
    | _ => exact hq⟩)

theorem W_lp {a : CCode} {Q : AExit → St → Prop} (I : Nat → St → Prop) (h : ∀ n st, I n st → W X lim a st (loopK I n Q)) (n : Nat) (st : St) (hi : I n st) : W X lim (.loop a) st Q :=
  W_loop I (fun n st hi => (h n st hi).mono fun e s hq => ⟨fun he => by subst he; exact hq, fun he => by cases e <;> first | exact absurd rfl he | exact hq⟩) n st hi

theorem W_rg {ops : List COper} {chk : Option Chk} {fg : List Nat} {st st' : St} {Q : AExit → St → Prop} (h : ∀ k, evalR (X k) lim ops chk fg st = some st') (hq : Q .normal st') : W X lim (.region ops chk fg) st Q :=
  W_draw ⟨0, fun k _ => h k⟩ hq

theorem W_cd {c : Opd} {a b : CCode} {st : St} {Q : AExit → St → Prop} (t : Bool) (hc : evx st.T [] c = .d (.bool t)) (h1 : t = true → W X lim a st Q) (h2 : t = false → W X lim b st Q) : W X lim (.cond c a b) st Q :=
  W_cond t hc (by cases t; · exact h2 rfl
                  · exact h1 rfl)

theorem W_cT {c : Opd} {a b : CCode} {st : St} {Q : AExit → St → Prop} (hc : evx st.T [] c = .d (.bool true)) (h : W X lim a st Q) : W X lim (.cond c a b) st Q := W_cond true hc h
theorem W_cF {c : Opd} {a b : CCode} {st : St} {Q : AExit → St → Prop} (hc : evx st.T [] c = .d (.bool false)) (h : W X lim b st Q) : W X lim (.cond c a b) st Q := W_cond false hc h

/-- Only the plain end. -/
def onlyK (P : St → Prop) : AExit → St → Prop
  | .normal, s => P s
  | .exit _, _ => False
  | .ret, _ => False

/-- The ways through a piece of code meet again. -/
theorem W_mid {a b : CCode} {st : St} {Q : AExit → St → Prop} (P : St → Prop) (h1 : W X lim a st (onlyK P)) (h2 : ∀ s, P s → W X lim b s Q) : W X lim (.seq a b) st Q :=
  W_sq (h1.mono fun e s h => by
    cases e with
    | normal => exact h2 s h
    | exit i => exact h.elim
    | ret => exact h.elim)

/-- A condition over a proposition. -/
theorem W_cP {c : Opd} {a b : CCode} {st : St} {Q : AExit → St → Prop} (p : Prop) [Decidable p] (hc : evx st.T [] c = .d (.bool (decide p))) (h1 : p → W X lim a st Q) (h2 : ¬ p → W X lim b st Q) : W X lim (.cond c a b) st Q :=
  W_cd _ hc (fun h => h1 (of_decide_eq_true h)) (fun h => h2 (of_decide_eq_false h))

/-- So many operations without a call. -/
theorem WO_take {ops : List COper} {st st' : St} {Q : St → Prop} (n : Nat) (h : ∀ k, runOps (X k) lim (ops.take n) st = some st') (k : WO X lim (ops.drop n) st' Q) : WO X lim ops st Q := by
  have key : ∀ (n : Nat) (ops : List COper) (st : St) (E : AEnv), runOps E lim (ops.take n) st = some st' → runOps E lim ops st = runOps E lim (ops.drop n) st' := by
    intro n
    induction n with
    | zero => intro ops st E h; simp [runOps] at h; simp [h]
    | succ n ih =>
      intro ops st E h
      cases ops with
      | nil => simp [runOps] at h; simp [h]
      | cons o os =>
        simp only [List.take_succ_cons, runOps] at h
        simp only [List.drop_succ_cons]
        rw [runOps]
        cases hs : stepOp E lim o st with
        | none => rw [hs] at h; simp at h
        | some s =>
          rw [hs] at h
          exact ih os s E h
  obtain ⟨s, ⟨k0, h1⟩, h2⟩ := k
  exact ⟨s, ⟨k0, fun j hj => by rw [key n ops st _ (h j)]; exact h1 j hj⟩, h2⟩

theorem WO_end {ops : List COper} {st st' : St} {Q : St → Prop} (h : ∀ k, runOps (X k) lim ops st = some st') (hq : Q st') : WO X lim ops st Q := ⟨_, ⟨0, fun k _ => h k⟩, hq⟩

end

section
variable {code : FuncId → Option CFn} {prim : FuncId → Option AFun} {lim : Nat}

theorem Fn_of {f : FuncId} {args : List AV} {H : AHeap} {Q : AV → AHeap → Prop} {na nt : Nat} {keep : Bool} {body : CCode} {res : List CRes} (hp : prim f = none) (hc : code f = some ⟨na, nt, keep, body, res⟩) (hl : args.length = na)
    (h : W (envN code prim) (if keep = true then lim else H.length) body ⟨args ++ List.replicate (nt - args.length) (.tuple []), H⟩ (ansK keep res H Q)) : Fn (envN code prim) f lim args H Q := by
  refine Fn_code hp hc hl (h.mono fun e s hq => ?_)
  cases e with
  | exit i => exact hq.elim
  | normal => exact ⟨fun i => by simp, hq⟩
  | ret => exact ⟨fun i => by simp, hq⟩

/-- The end of a function that keeps what it makes. -/
theorem ans_keep {res : List CRes} {H : AHeap} {Q : AV → AHeap → Prop} {s : St} {vs : List AV} (h : resV s.T s.H res = some vs) (hq : Q (oneOf vs) s.H) : ansK true res H Q .ret s := ⟨vs, h, by rw [if_pos rfl]; exact hq⟩
/-- The end of one that keeps nothing. -/
theorem ans_cut {res : List CRes} {H : AHeap} {Q : AV → AHeap → Prop} {s : St} {vs : List AV} {v : AV} (h : resV s.T s.H res = some vs) (hf : freeze s.H H.length (oneOf vs) = some v) (hq : Q v H) : ansK false res H Q .ret s := ⟨vs, h, by rw [if_neg (by simp)]; exact ⟨v, hf, hq⟩⟩

theorem Fn.ev {X : Nat → AEnv} {f : FuncId} {args : List AV} {H H' : AHeap} {v : AV} (h : Fn X f lim args H fun v' H'' => v' = v ∧ H'' = H') : Ev X f lim args H v H' := by
  obtain ⟨v', H'', h1, rfl, rfl⟩ := h
  exact h1

end

theorem pair_beq (a b c d : Nat) : ((a, b) == (c, d)) = (a == c && b == d) := rfl

/-! Numbers. -/
theorem w64 {n : Int} (h : -9223372036854775808 ≤ n) (k : n ≤ 9223372036854775807) : IntKind.i64.wrap n = n := by
  exact IntWalk.i64_in n ⟨h, k⟩

theorem wsucc {n : Nat} (h : n < 9223372036854775807) : IntKind.i64.wrap ((n : Int) + 1) = ((n + 1 : Nat) : Int) := by
  rw [w64 (by omega) (by omega)]; omega

theorem nat_nonneg (n : Nat) : (0 ≤ (n : Int)) = True := by simp

theorem ex_list (T : List AV) (F : (Nat → AV) → List AV) (h : T = F fun n => T.getD n .undef) : ∃ x, T = F x := ⟨_, h⟩

theorem ex_st (T : List AV) (H : AHeap) (F : (Nat → AV) → List AV) (h : T = F fun n => T.getD n .undef) : ∃ x, (⟨T, H⟩ : St) = ⟨F x, H⟩ := ⟨_, by rw [← h]⟩

/-- A condition that is not determined: both ways come to the same. -/
theorem W_fork {X : Nat → AEnv} {lim : Nat} {c : Opd} {a b : CCode} {st : St} {Q : AExit → St → Prop} {e : AExit} {T1 T2 : List AV} {H : AHeap} (hc : evx st.T [] c = .ubool) (h1 : W X lim a st fun e' s => e' = e ∧ s = ⟨T1, H⟩) (h2 : W X lim b st fun e' s => e' = e ∧ s = ⟨T2, H⟩)
    (hl : T1.length = T2.length) (hq : Q e ⟨joinT T1 T2, H⟩) : W X lim (.cond c a b) st Q := by
  obtain ⟨e1, s1, ⟨k1, q1⟩, rfl, rfl⟩ := h1
  obtain ⟨e2, s2, ⟨k2, q2⟩, rfl, rfl⟩ := h2
  refine ⟨_, _, ⟨k1 + k2, fun k n hk hn => ?_⟩, hq⟩
  simp only [evalC, hc, q1 k n (by omega) (by omega), q2 k n (by omega) (by omega), joinR]
  rw [if_pos ⟨trivial, hl, heapBeq_self _⟩]

theorem ev_mk {X : Nat → AEnv} {f lim k0 : Nat} {a : List AV} {H J : AHeap} {v : AV} (h : ∀ k, k0 ≤ k → X k f lim a H = some (v, J)) : Fn X f lim a H fun v' J' => v' = v ∧ J' = J := ⟨v, J, ⟨k0, h⟩, rfl, rfl⟩

/-- From some depth on. -/
def Evl (P : Nat → Prop) : Prop := ∃ k0, ∀ k, k0 ≤ k → P k

theorem Evl.all {P : Nat → Prop} (h : ∀ k, P k) : Evl P := ⟨0, fun k _ => h k⟩

theorem Evl.call {X : Nat → AEnv} {f lim : Nat} {a : List AV} {H J : AHeap} {v : AV} {P : Nat → Prop} (e : Ev X f lim a H v J) (h : Evl fun k => X k f lim a H = some (v, J) → P k) : Evl P := by
  obtain ⟨k1, h1⟩ := e
  obtain ⟨k2, h2⟩ := h
  exact ⟨k1 + k2, fun k hk => h2 k (by omega) (h1 k (by omega))⟩

/-- A statement whose order is open, with calls of which the answers are known. -/
theorem W_drw {X : Nat → AEnv} {lim : Nat} {ops : List COper} {chk : Option Chk} {fg : List Nat} {st st' : St} {Q : AExit → St → Prop} (h : Evl fun k => evalR (X k) lim ops chk fg st = some st') (hq : Q .normal st') : W X lim (.region ops chk fg) st Q := W_draw h hq

attribute [irreducible] onlyK W WO Fn Ev ansK seqK blockK loopK

/-! Memory. -/
theorem get_set_same {H : AHeap} {r : Nat} {o : AObj} (x : AObj) (h : H[r]? = some o) : (H.set r x)[r]? = some x := by
  have := (List.getElem?_eq_some_iff.1 h).1
  simp [this]

theorem get_last (H : AHeap) (x : AObj) : (H ++ [x])[H.length]? = some x := by simp
theorem set_last (H : AHeap) (x y : AObj) : (H ++ [x]).set H.length y = H ++ [y] := by simp
theorem get_more {H : AHeap} {r : Nat} {o : AObj} (x : AObj) (h : H[r]? = some o) : (H ++ [x])[r]? = some o := by
  have := (List.getElem?_eq_some_iff.1 h).1
  rw [List.getElem?_append_left this]; exact h

/-- Memory, as one object's cells turn. -/
theorem cell_store {K : AHeap} {r q : Nat} {c : List AV} {o : AObj} (hr : K[r]? = some (.cells c)) (hq : K[q]? = some o) (hqr : q ≠ r) :
    ∃ HH : List AV → AHeap, HH = (fun c => K.set r (.cells c)) ∧ HH c = K ∧ (∀ c, (HH c)[r]? = some (.cells c)) ∧ (∀ c c', (HH c).set r (.cells c') = HH c') ∧ (∀ c, (HH c)[q]? = some o) ∧ ∀ c, (HH c).length = K.length := by
  obtain ⟨h1, h2⟩ := List.getElem?_eq_some_iff.1 hr
  refine ⟨_, rfl, ?_, fun c => by simp [h1], fun c c' => by simp, fun c => by rw [List.getElem?_set_ne hqr.symm, hq], fun c => by simp⟩
  show K.set r (.cells c) = K
  rw [← h2]; exact List.set_getElem_self h1

/-! Bytes. -/
abbrev bD (s : List UInt8) : D := .slice (s.map byteD)

theorem byteD_cells (b : UInt8) : (byteD b).cells = [byteD b] := rfl

theorem bytesOf_map (s : List UInt8) : bytesOf (s.map byteD) = some s := by
  induction s with
  | nil => rfl
  | cons b s ih =>
    simp only [List.map_cons, byteD, bytesOf]
    have : bytesOf (s.map fun b => D.int IntKind.u8 (b.toNat : Int)) = some s := ih
    rw [show List.map byteD s = s.map fun b => D.int IntKind.u8 (b.toNat : Int) from rfl, this]
    simp

theorem headSz_bytes (s : List UInt8) : headSz 1 (s.map byteD) = true := by
  cases s <;> simp [headSz, byteD_cells]

theorem headSz_nil (sz : Nat) : headSz sz [] = true := rfl
theorem headSz_cons (sz : Nat) (x : D) (l : List D) : headSz sz (x :: l) = (x.cells.length == sz) := rfl
theorem headSz_map {α : Type} {sz : Nat} {f : α → D} (h : ∀ x, (f x).cells.length = sz) (l : List α) : headSz sz (l.map f) = true := by
  cases l <;> simp [headSz, h]
theorem headSz_rows (l : List (List UInt8)) : headSz 1 (l.map bD) = true := headSz_map (sz := 1) (f := bD) (fun x => rfl) l
theorem headSz_rows' (l : List (List UInt8)) : headSz 1 (l.map fun s => D.slice (s.map byteD)) = true := headSz_map (sz := 1) (f := fun s => D.slice (s.map byteD)) (fun x => rfl) l

theorem chunks_bytes (s : List UInt8) (rest : List AV) : chunks 1 false s.length ((s.map byteD).map AV.d ++ rest) = some (s.map byteD) := by
  induction s with
  | nil => rfl
  | cons b s ih =>
    simp only [List.map_cons, List.length_cons, chunks, List.cons_append, List.take_succ_cons, List.take_zero, List.drop_succ_cons, List.drop_zero, ih]
    simp [AV.toDs, AV.toD]

theorem take_len_map {α β : Type} (f : α → β) (s : List α) : List.take s.length (List.map f s) = List.map f s := by
  rw [List.take_of_length_le (by simp)]

theorem splice_bytes (s : List UInt8) (v : AV) : splice (List.replicate s.length v) 0 ((s.map byteD).map AV.d) = (s.map byteD).map AV.d := by
  simp [splice]

/-- A row of bytes that a call made and hands back. -/
theorem freeze_bytes (s : List UInt8) (H : AHeap) (cap : Nat) (rest : List AV) : freeze (H ++ [.cells ((s.map byteD).map AV.d ++ rest)]) H.length (.oslice H.length 0 s.length cap 1) = some (.d (bD s)) := by
  simp only [freeze, Nat.le_refl, true_and, if_pos (show 0 < 1 from by decide), get_last, Nat.zero_add, Nat.mul_one, List.length_append, List.length_map, Nat.le_add_right, if_true, List.drop_zero, bne_self_eq_false, chunks_bytes, Option.map_some, bD]

theorem flatMap_cells_bytes (s : List UInt8) : (s.map byteD).flatMap D.cells = s.map byteD := by
  induction s with
  | nil => rfl
  | cons b s ih => simp only [List.map_cons, List.flatMap_cons, ih, byteD_cells]; rfl

end Go.Abs

/- Slim code: the same with fewer slots and moves; what it answers, the code that it was made of answers. -/
namespace Go.Abs

variable [Tab]

/-- Where a slot lies in the slim row; 'ex': its right to append lies there, too. -/
structure ME where
  n : Nat
  p : Nat
  ex : Bool
  deriving Inhabited, Repr, DecidableEq

abbrev RM := List ME

def mget (M : RM) (n : Nat) : Option ME := M.find? (·.n == n)
def posOf (M : RM) (n : Nat) : Nat := match mget M n with
  | some e => e.p
  | none => 0

def rnO (M : RM) : Opd → Opd
  | .c v => .c v
  | .t n => .t (posOf M n)

def COp.mapO (g : Opd → Opd) : COp → COp
  | .move x => .move (g x)
  | .pick c a b => .pick (g c) (g a) (g b)
  | .new cs => .new cs
  | .box x => .box (g x)
  | .build z ps => .build z (ps.map fun p => (p.1, p.2.1, g p.2.2))
  | .buildSl s z n ps => .buildSl s z n (ps.map fun p => (p.1, g p.2))
  | .buildLit s z n ps => .buildLit s z n (ps.map fun p => (p.1, g p.2))
  | .load a s x => .load a s (g x)
  | .loadTake x => .loadTake (g x)
  | .store s a v => .store s (g a) (g v)
  | .nilCheck x => .nilCheck (g x)
  | .bin o k x y => .bin o k (g x) (g y)
  | .nilSl b x => .nilSl b (g x)
  | .un o x => .un o (g x)
  | .toInt k x => .toInt k (g x)
  | .same x => .same (g x)
  | .sameSl x => .sameSl (g x)
  | .toBytes x => .toBytes (g x)
  | .toStr x => .toStr (g x)
  | .ofRune x => .ofRune (g x)
  | .mkIface t x => .mkIface t (g x)
  | .mkFunc f cs => .mkFunc f (cs.map g)
  | .mkMap k => .mkMap k
  | .mkSl s b z l c => .mkSl s b z (g l) (g c)
  | .slStr x l h => .slStr (g x) (l.map g) (h.map g)
  | .sl s x l h m => .sl s (g x) (l.map g) (h.map g) (m.map g)
  | .slArr n s x l h => .slArr n s (g x) (l.map g) (h.map g)
  | .fieldAddr o x => .fieldAddr o (g x)
  | .field a o s x => .field a o s (g x)
  | .idxSl s x i => .idxSl s (g x) (g i)
  | .idxArr n s x i => .idxArr n s (g x) (g i)
  | .idxStr x i => .idxStr (g x) (g i)
  | .idxAgg n a s x i => .idxAgg n a s (g x) (g i)
  | .lookup k z x i ok => .lookup k z (g x) (g i) ok
  | .mapSet k m x v => .mapSet k (g m) (g x) (g v)
  | .rngStr x => .rngStr (g x)
  | .nextStr x => .nextStr (g x)
  | .extract x i => .extract (g x) i
  | .len k x => .len k (g x)
  | .append s b str x y => .append s b str (g x) (g y)
  | .appendO s b str x y => .appendO s b str (g x) (g y)
  | .copy s str x y => .copy s str (g x) (g y)
  | .minI xs => .minI (xs.map g)
  | .maxI xs => .maxI (xs.map g)
  | .delete k m x => .delete k (g m) (g x)
  | .call f as => .call f (as.map g)
  | .callV f as => .callV (g f) (as.map g)
  | .panic x => .panic (g x)

set_option maxHeartbeats 4000000 in
theorem aop_map (E : AEnv) (lim : Nat) (H : AHeap) (ρ : Opd → AV) (g : Opd → Opd) (o : COp) : aop E lim H ρ (o.mapO g) = aop E lim H (fun x => ρ (g x)) o := by
  have opt : ∀ (n : Nat) (x : Option Opd), optInt ρ n (x.map g) = optInt (fun x => ρ (g x)) n x := fun n x => by cases x <;> rfl
  cases o with
  | sl s x l h m => cases l <;> cases h <;> cases m <;> rfl
  | slStr x l h => simp only [COp.mapO, aop, opt]
  | slArr n s x l h => simp only [COp.mapO, aop, opt]
  | build z ps => simp only [COp.mapO, aop, List.map_map]; rfl
  | buildSl s z n ps => simp only [COp.mapO, aop, List.map_map]; rfl
  | buildLit s z n ps => simp only [COp.mapO, aop, List.map_map]; rfl
  | mkFunc f cs => simp only [COp.mapO, aop, List.map_map]; rfl
  | minI xs => simp only [COp.mapO, aop, List.map_map]; rfl
  | maxI xs => simp only [COp.mapO, aop, List.map_map]; rfl
  | call f as => simp only [COp.mapO, aop, List.map_map]; rfl
  | callV f as => simp only [COp.mapO, aop, List.map_map]; rfl
  | _ => rfl

/-- More answers. -/
def Le (E' E : AEnv) : Prop := ∀ f lim a H r, E' f lim a H = some r → E f lim a H = some r

set_option maxHeartbeats 4000000 in
theorem aop_le {E' E : AEnv} (hE : Le E' E) {lim : Nat} {H : AHeap} {ρ : Opd → AV} {o : COp} {r : AV × AHeap} (h : aop E' lim H ρ o = some r) : aop E lim H ρ o = some r := by
  cases o with
  | call f as => exact hE _ _ _ _ _ h
  | callV f as =>
    simp only [aop] at h ⊢
    revert h
    cases ρ f with
    | func fn caps => cases fn with
      | func g => exact fun h => hE _ _ _ _ _ h
      | _ => exact fun h => h
    | _ => exact fun h => h
  | _ => exact h

/-- The slim row holds what the slots hold. -/
def Rel (M : RM) (T T' : List AV) : Prop := ∀ e ∈ M, if e.ex = true then T'.getD e.p .undef = T.getD e.n .undef else (T'.getD e.p .undef).unf = T.getD e.n .undef

def okO (M : RM) (cons : List Nat) : Opd → Bool
  | .c _ => true
  | .t n => match mget M n with
    | some e => (cons.contains n == (cons.map (posOf M)).contains e.p) && (!cons.contains n || e.ex)
    | none => false

def okCons (M : RM) (cons : List Nat) : Bool := M.all fun e => !e.ex || (cons.contains e.n == (cons.map (posOf M)).contains e.p)

theorem mget_some {M : RM} {n : Nat} {e : ME} (h : mget M n = some e) : e ∈ M ∧ e.n = n ∧ posOf M n = e.p := by
  unfold mget at h
  have h1 := List.mem_of_find?_eq_some h
  have h2 := List.find?_some h
  exact ⟨h1, by simpa using h2, by simp [posOf, mget, h]⟩

theorem unf_unf (a : AV) : a.unf.unf = a.unf := by cases a <;> rfl

theorem evx_rn {M : RM} {T T' : List AV} (hR : Rel M T T') {cons : List Nat} {x : Opd} (hx : okO M cons x = true) : evx T' (cons.map (posOf M)) (rnO M x) = evx T cons x := by
  cases x with
  | c v => rfl
  | t n =>
    simp only [okO] at hx
    split at hx
    · rename_i e he
      obtain ⟨h1, h2, h3⟩ := mget_some he
      simp only [Bool.and_eq_true, beq_iff_eq, Bool.or_eq_true, Bool.not_eq_true'] at hx
      obtain ⟨hx1, hx2⟩ := hx
      have hr := hR e h1
      simp only [rnO, evx, h3, ← hx1]
      by_cases hc : cons.contains n = true
      · rw [if_pos hc, if_pos hc]
        have : e.ex = true := hx2.resolve_left (by rw [hc]; simp)
        rw [if_pos this] at hr
        rw [hr, h2]
      · rw [if_neg hc, if_neg hc]
        split at hr
        · rw [hr, h2]
        · rw [hr, h2, ← h2, ← hr, unf_unf]
    · simp at hx

theorem getD_unflag (T : List AV) (cons : List Nat) (i : Nat) : (unflag T cons).getD i .undef = if i ∈ cons then (T.getD i .undef).unf else T.getD i .undef := by
  simp only [List.getD, unflag_get]
  split
  · cases T[i]? <;> rfl
  · rfl

theorem rel_unflag {M : RM} {T T' : List AV} (hR : Rel M T T') {cons : List Nat} (hc : okCons M cons = true) : Rel M (unflag T cons) (unflag T' (cons.map (posOf M))) := by
  intro e he
  have hr := hR e he
  simp only [okCons, List.all_eq_true] at hc
  have h1 := hc e he
  rw [getD_unflag, getD_unflag]
  by_cases hx : e.ex = true
  · rw [if_pos hx] at hr
    simp only [hx, Bool.not_true, Bool.false_or, beq_iff_eq] at h1
    have h2 : (e.n ∈ cons) = (e.p ∈ cons.map (posOf M)) := by
      rw [← List.contains_iff_mem, ← List.contains_iff_mem, h1]
    rw [if_pos hx]
    simp only [h2, hr]
  · rw [if_neg hx] at hr
    rw [if_neg hx]
    split <;> split <;> simp only [unf_unf, hr]
    · rw [← hr, unf_unf]
    · rw [← hr, unf_unf]

theorem getD_set (T : List AV) (i j : Nat) (v : AV) : (T.set i v).getD j .undef = if i = j ∧ i < T.length then v else T.getD j .undef := by
  simp only [List.getD]
  by_cases h : i = j
  · subst h
    by_cases hl : i < T.length
    · simp [hl]
    · simp [hl]
  · rw [List.getElem?_set_ne h]; simp [h]

/-- The map behind an operation that puts its answer. -/
def setM (M : RM) (d p : Nat) : RM := ⟨d, p, true⟩ :: M.filter fun e => e.n != d && e.p != p

theorem rel_set {M : RM} {T T' : List AV} (hR : Rel M T T') {d p : Nat} (hd : d < T.length) (hp : p < T'.length) (v : AV) : Rel (setM M d p) (T.set d v) (T'.set p v) := by
  intro e he
  simp only [setM, List.mem_cons, List.mem_filter, Bool.and_eq_true, bne_iff_ne] at he
  rcases he with rfl | ⟨he, h1, h2⟩
  · simp [getD_set, hd, hp]
  · rw [getD_set, getD_set, if_neg (show ¬ (p = e.p ∧ p < T'.length) from fun q => h2 q.1.symm), if_neg (show ¬ (d = e.n ∧ d < T.length) from fun q => h1 q.1.symm)]
    exact hR e he

theorem wanted_rn {M : RM} {T T' : List AV} (hR : Rel M T T') {t : Nat} {b : Bool} {e : ME} (he : mget M t = some e) : wanted T' (some (posOf M t, b)) = wanted T (some (t, b)) := by
  obtain ⟨h1, h2, h3⟩ := mget_some he
  have hr := hR e h1
  simp only [wanted, h3]
  split at hr
  · rw [hr, h2]
  · rw [← h2, ← hr]
    cases T'.getD e.p .undef <;> rfl

/-- A place for an answer: its own, or one that nobody needs any more. -/
def freeP (used : List Nat) : Nat → Nat → Nat
  | 0, p => p
  | k + 1, p => if used.contains p then freeP used k (p + 1) else p

def pickP (K : Nat) (home : RM) (M : RM) (os : List COper) (d : Nat) : Nat :=
  match mget home d with
  | some e => e.p
  | none => freeP ((M.filter fun e => os.any fun o => o.reads.contains e.n).map (·.p)) (M.length + 1) K

/-- A move that can be spared. -/
def aliasM (nt : Nat) (home M : RM) (o : COper) (os : List COper) : Option RM :=
  match o with
  | ⟨some d, .move (.t s), none, []⟩ => match mget M s with
    | some e => if d < nt && (mget home d).isNone && os.all (fun x => x.dst != some s) then some (⟨d, e.p, false⟩ :: M.filter fun e => e.n != d) else none
    | none => none
  | _ => none

def okOper (M : RM) (o : COper) : Bool :=
  o.op.opds.all (okO M o.cons) && okCons M o.cons && match o.guard with
    | none => true
    | some (t, _) => (mget M t).isSome

def rnOper (M : RM) (o : COper) (dst : Option Nat) : COper :=
  ⟨dst, o.op.mapO (rnO M), o.guard.map fun g => (posOf M g.1, g.2), o.cons.map (posOf M)⟩

def slimOps (al : Bool) (K nt nt' : Nat) (home : RM) : RM → List COper → Option (List COper × RM)
  | M, [] => some ([], M)
  | M, o :: os => match (if al then aliasM nt home M o os else none) with
    | some M' => slimOps al K nt nt' home M' os
    | none => if okOper M o then match o.dst with
        | none => match slimOps al K nt nt' home M os with
          | some (os', M') => some (rnOper M o none :: os', M')
          | none => none
        | some d => if d < nt ∧ pickP K home M os d < nt' then match slimOps al K nt nt' home (setM M d (pickP K home M os d)) os with
            | some (os', M') => some (rnOper M o (some (pickP K home M os d)) :: os', M')
            | none => none
          else none
      else none

section
variable {E' E : AEnv} {lim : Nat} {K nt nt' : Nat} {home : RM}

theorem rel_alias {M M' : RM} {o : COper} {os : List COper} {st : St} {T' : List AV} (h : aliasM nt home M o os = some M') (hR : Rel M st.T T') (hl : st.T.length = nt) :
    ∃ T, stepOp E lim o st = some ⟨T, st.H⟩ ∧ Rel M' T T' ∧ T.length = nt := by
  unfold aliasM at h
  split at h
  · rename_i d s
    split at h
    · rename_i e he
      split at h
      · rename_i hc
        simp only [Option.some.injEq] at h; subst h
        simp only [Bool.and_eq_true, decide_eq_true_eq] at hc
        obtain ⟨h1, h2, h3⟩ := mget_some he
        have hr := hR e h1
        refine ⟨st.T.set d (st.T.getD s .undef).unf, rfl, fun e' he' => ?_, by simp [hl]⟩
        simp only [List.mem_cons, List.mem_filter, bne_iff_ne] at he'
        rcases he' with rfl | ⟨he', hne⟩
        · simp only [Bool.false_eq_true, if_false, getD_set, true_and]
          rw [if_pos (by omega)]
          split at hr
          · rw [hr, h2]
          · rw [← h2, ← hr, unf_unf]
        · rw [getD_set, if_neg (show ¬ (d = e'.n ∧ d < st.T.length) from fun q => hne q.1.symm)]
          exact hR e' he'
      · simp at h
    · simp at h
  · simp at h

theorem len_put (T : List AV) (d : Option Nat) (v : AV) : (put T d v).length = T.length := by cases d <;> simp [put]

theorem len_put_if (c : Prop) [Decidable c] (T : List AV) (l : List Nat) (d : Option Nat) (v : AV) : (put (if c then unflag T l else T) d v).length = T.length := by
  rw [len_put]
  split
  · exact unflag_len _ _
  · rfl

/-- One operation. -/
theorem step_slim (hE : Le E' E) {M : RM} {o : COper} {st : St} {T' : List AV} {p : Option Nat} {s' : St} (hok : okOper M o = true) (hR : Rel M st.T T') (h : stepOp E' lim (rnOper M o p) ⟨T', st.H⟩ = some s') :
    ∃ v, s'.T = put (if (wanted st.T o.guard) = some true then unflag T' (o.cons.map (posOf M)) else T') p v ∧ stepOp E lim o st = some ⟨put (if (wanted st.T o.guard) = some true then unflag st.T o.cons else st.T) o.dst v, s'.H⟩ := by
  simp only [okOper, Bool.and_eq_true, List.all_eq_true] at hok
  obtain ⟨⟨h1, h2⟩, h3⟩ := hok
  have hw : wanted T' (o.guard.map fun g => (posOf M g.1, g.2)) = wanted st.T o.guard := by
    cases hg : o.guard with
    | none => rfl
    | some g =>
      obtain ⟨t, b⟩ := g
      rw [hg] at h3
      simp only [Option.isSome_iff_exists] at h3
      obtain ⟨e, he⟩ := h3
      exact wanted_rn hR he
  simp only [stepOp, rnOper, hw] at h
  simp only [stepOp]
  split at h
  · rename_i hwt
    rw [aop_map] at h
    split at h
    · rename_i v H he
      simp only [Option.some.injEq] at h; subst h
      have he' : aop E lim st.H (evx st.T o.cons) o.op = some (v, H) := by
        rw [← aop_congr (fun x hx => evx_rn hR (h1 x hx))]
        exact aop_le hE he
      refine ⟨v, ?_, ?_⟩
      · simp only [hwt, if_true]
      · simp only [hwt, he', if_true]
    · simp at h
  · rename_i hwt
    simp only [Option.some.injEq] at h; subst h
    refine ⟨.tuple [], ?_, ?_⟩
    · simp only [hwt]; rfl
    · simp only [hwt]; rfl
  · simp at h

theorem rel_put {M : RM} {o : COper} {st : St} {T' : List AV} (hok : okOper M o = true) (hR : Rel M st.T T') (hl : st.T.length = nt) (hl' : T'.length = nt') {v : AV} (d : Option Nat) {q : Option Nat} (hd : o.dst = d) (M' : RM)
    (hM : (d = none ∧ q = none ∧ M' = M) ∨ ∃ x p, d = some x ∧ q = some p ∧ x < nt ∧ p < nt' ∧ M' = setM M x p) :
    Rel M' (put (if (wanted st.T o.guard) = some true then unflag st.T o.cons else st.T) o.dst v) (put (if (wanted st.T o.guard) = some true then unflag T' (o.cons.map (posOf M)) else T') q v) := by
  have hc : okCons M o.cons = true := by
    simp only [okOper, Bool.and_eq_true] at hok; exact hok.1.2
  have hR2 : Rel M (if (wanted st.T o.guard) = some true then unflag st.T o.cons else st.T) (if (wanted st.T o.guard) = some true then unflag T' (o.cons.map (posOf M)) else T') := by
    split
    · exact rel_unflag hR hc
    · exact hR
  have e1 : (if (wanted st.T o.guard) = some true then unflag st.T o.cons else st.T).length = nt := by split <;> simp [unflag_len, hl]
  have e2 : (if (wanted st.T o.guard) = some true then unflag T' (o.cons.map (posOf M)) else T').length = nt' := by split <;> simp [unflag_len, hl']
  rw [hd]
  rcases hM with ⟨rfl, rfl, rfl⟩ | ⟨x, p, rfl, rfl, hx, hp, rfl⟩
  · exact hR2
  · exact rel_set hR2 (by omega) (by omega) v

theorem ops_slim (hE : Le E' E) (al : Bool) : ∀ (os : List COper) (M M' : RM) (os' : List COper) {st : St} {T' : List AV} {s' : St}, slimOps al K nt nt' home M os = some (os', M') → Rel M st.T T' → st.T.length = nt → T'.length = nt' →
    runOps E' lim os' ⟨T', st.H⟩ = some s' → ∃ T, runOps E lim os st = some ⟨T, s'.H⟩ ∧ Rel M' T s'.T ∧ T.length = nt ∧ s'.T.length = nt'
  | [], M, M', os', st, T', s', h, hR, hl, hl', hr => by
    simp only [slimOps, Option.some.injEq, Prod.mk.injEq] at h
    obtain ⟨rfl, rfl⟩ := h
    simp only [runOps, Option.some.injEq] at hr; subst hr
    exact ⟨st.T, rfl, hR, hl, hl'⟩
  | o :: os, M, M', os', st, T', s', h, hR, hl, hl', hr => by
    simp only [slimOps] at h
    split at h
    · rename_i M1 ha
      have ha : aliasM nt home M o os = some M1 := by
        cases al with
        | true => simpa using ha
        | false => simp at ha
      obtain ⟨T1, h1, h2, h3⟩ := rel_alias (E := E) (lim := lim) ha hR hl
      obtain ⟨T2, h4, h5⟩ := ops_slim hE al os M1 M' os' (st := ⟨T1, st.H⟩) h h2 h3 hl' hr
      exact ⟨T2, by simp only [runOps, h1]; exact h4, h5⟩
    · split at h
      · rename_i hok
        split at h
        · rename_i hdst
          split at h
          · rename_i os1 M1 hs
            simp only [Option.some.injEq, Prod.mk.injEq] at h
            obtain ⟨rfl, rfl⟩ := h
            simp only [runOps] at hr
            split at hr
            · rename_i s1 h1
              obtain ⟨v, e1, e2⟩ := step_slim hE hok hR h1
              have hR2 := rel_put (nt := nt) (nt' := nt') hok hR hl hl' (v := v) none hdst M (.inl ⟨rfl, rfl, rfl⟩)
              rw [← e1] at hR2
              obtain ⟨T2, h4, h5⟩ := ops_slim hE al os M M1 os1 (st := ⟨_, s1.H⟩) hs hR2 (Eq.trans (len_put_if _ _ _ _ _) hl) (by rw [e1, len_put_if]; exact hl') hr
              exact ⟨T2, by simp only [runOps, e2]; exact h4, h5⟩
            · simp at hr
          · simp at h
        · rename_i d hdst
          split at h
          · rename_i hlt
            split at h
            · rename_i os1 M1 hs
              simp only [Option.some.injEq, Prod.mk.injEq] at h
              obtain ⟨rfl, rfl⟩ := h
              simp only [runOps] at hr
              split at hr
              · rename_i s1 h1
                obtain ⟨v, e1, e2⟩ := step_slim hE hok hR h1
                have hR2 := rel_put (nt := nt) (nt' := nt') hok hR hl hl' (v := v) (some d) hdst _ (.inr ⟨d, _, rfl, rfl, hlt.1, hlt.2, rfl⟩)
                rw [← e1] at hR2
                obtain ⟨T2, h4, h5⟩ := ops_slim hE al os _ M1 os1 (st := ⟨_, s1.H⟩) hs hR2 (Eq.trans (len_put_if _ _ _ _ _) hl) (by rw [e1, len_put_if]; exact hl') hr
                exact ⟨T2, by simp only [runOps, e2]; exact h4, h5⟩
              · simp at hr
            · simp at h
          · simp at h
      · simp at h

end

end Go.Abs

/- Slim code: statements whose order is open; whole functions; whole programs. -/
namespace Go.Abs

variable [Tab]

section
variable {E' E : AEnv} {lim : Nat} {K nt nt' : Nat} {home : RM}

/-- What one operation was found at, and what the slim one. -/
structure RecLe (E' E : AEnv) (lim : Nat) (r' r : Rec) : Prop where
  v : r'.v = r.v
  inert : inertRec r' = inertRec r
  aop : ∀ H x, aop E' lim H (evx r'.T r'.o.cons) r'.o.op = some x → aop E lim H (evx r.T r.o.cons) r.o.op = some x

theorem inert_rn {M : RM} {o : COper} {T T' : List AV} {p : Option Nat} {v : Option AV} (hok : okOper M o = true) (hR : Rel M T T') : inertRec ⟨rnOper M o p, T', v⟩ = inertRec ⟨o, T, v⟩ := by
  simp only [okOper, Bool.and_eq_true, List.all_eq_true] at hok
  have h1 := hok.1.1
  cases v with
  | none => rfl
  | some v =>
    simp only [inertRec, rnOper]
    cases ho : o.op with
    | append s b str x y =>
      simp only [COp.mapO]
      rw [evx_rn hR (h1 y (by rw [ho]; simp [COp.opds]))]
    | _ => rfl

theorem rec_slim (hE : Le E' E) {M : RM} {o : COper} {st : St} {T' : List AV} {p : Option Nat} {r' : Rec} {s' : St} (hok : okOper M o = true) (hR : Rel M st.T T') (h : stepRec E' lim (rnOper M o p) ⟨T', st.H⟩ = some (r', s')) :
    ∃ v r, s'.T = put (if (wanted st.T o.guard) = some true then unflag T' (o.cons.map (posOf M)) else T') p v ∧ stepRec E lim o st = some (r, ⟨put (if (wanted st.T o.guard) = some true then unflag st.T o.cons else st.T) o.dst v, s'.H⟩) ∧ RecLe E' E lim r' r := by
  have hok' := hok
  simp only [okOper, Bool.and_eq_true, List.all_eq_true] at hok
  obtain ⟨⟨h1, h2⟩, h3⟩ := hok
  have hw : wanted T' (o.guard.map fun g => (posOf M g.1, g.2)) = wanted st.T o.guard := by
    cases hg : o.guard with
    | none => rfl
    | some g =>
      obtain ⟨t, b⟩ := g
      rw [hg] at h3
      simp only [Option.isSome_iff_exists] at h3
      obtain ⟨e, he⟩ := h3
      exact wanted_rn hR he
  have hag : ∀ H x, aop E' lim H (evx T' (rnOper M o p).cons) (rnOper M o p).op = some x → aop E lim H (evx st.T o.cons) o.op = some x := fun H x hx => by
    simp only [rnOper] at hx
    rw [aop_map] at hx
    rw [← aop_congr (fun x hx => evx_rn hR (h1 x hx))]
    exact aop_le hE hx
  simp only [stepRec] at h
  rw [show (rnOper M o p).guard = o.guard.map fun g => (posOf M g.1, g.2) from rfl, hw] at h
  simp only [stepRec]
  split at h
  · rename_i hwt
    split at h
    · rename_i v H he
      simp only [Option.some.injEq, Prod.mk.injEq] at h
      obtain ⟨rfl, rfl⟩ := h
      have he' := hag _ _ he
      refine ⟨v, ⟨o, st.T, some v⟩, ?_, ?_, ⟨rfl, inert_rn hok' hR, hag⟩⟩
      · simp only [hwt, if_true]; rfl
      · simp only [hwt, he', if_true]
    · simp at h
  · rename_i hwt
    simp only [Option.some.injEq, Prod.mk.injEq] at h
    obtain ⟨rfl, rfl⟩ := h
    refine ⟨.tuple [], ⟨o, st.T, none⟩, ?_, ?_, ⟨rfl, inert_rn hok' hR, hag⟩⟩
    · simp only [hwt]; rfl
    · simp only [hwt]; rfl
  · simp at h

theorem trace_slim (hE : Le E' E) : ∀ (os : List COper) (M M' : RM) (os' : List COper) {st : St} {T' : List AV} {rs' : List Rec} {s' : St}, slimOps false K nt nt' home M os = some (os', M') → Rel M st.T T' → st.T.length = nt → T'.length = nt' →
    traceOps E' lim os' ⟨T', st.H⟩ = some (rs', s') → ∃ rs T, traceOps E lim os st = some (rs, ⟨T, s'.H⟩) ∧ Rel M' T s'.T ∧ T.length = nt ∧ s'.T.length = nt' ∧ rs.length = rs'.length ∧ ∀ (i : Nat) r', rs'[i]? = some r' → ∃ r, rs[i]? = some r ∧ RecLe E' E lim r' r
  | [], M, M', os', st, T', rs', s', h, hR, hl, hl', hr => by
    simp only [slimOps, Option.some.injEq, Prod.mk.injEq] at h
    obtain ⟨rfl, rfl⟩ := h
    simp only [traceOps, Option.some.injEq, Prod.mk.injEq] at hr
    obtain ⟨rfl, rfl⟩ := hr
    exact ⟨[], st.T, rfl, hR, hl, hl', rfl, fun i r' h => by simp at h⟩
  | o :: os, M, M', os', st, T', rs', s', h, hR, hl, hl', hr => by
    simp only [slimOps, Bool.false_eq_true, if_false] at h
    have cons : ∀ {M1 : RM} {p : Option Nat} {os1 : List COper} {M2 : RM}, okOper M o = true → slimOps false K nt nt' home M1 os = some (os1, M2) → (∀ v, Rel M1 (put (if (wanted st.T o.guard) = some true then unflag st.T o.cons else st.T) o.dst v) (put (if (wanted st.T o.guard) = some true then unflag T' (o.cons.map (posOf M)) else T') p v)) →
        traceOps E' lim (rnOper M o p :: os1) ⟨T', st.H⟩ = some (rs', s') → ∃ rs T, traceOps E lim (o :: os) st = some (rs, ⟨T, s'.H⟩) ∧ Rel M2 T s'.T ∧ T.length = nt ∧ s'.T.length = nt' ∧ rs.length = rs'.length ∧ ∀ (i : Nat) r', rs'[i]? = some r' → ∃ r, rs[i]? = some r ∧ RecLe E' E lim r' r := by
      intro M1 p os1 M2 hok hs hput hr
      simp only [traceOps] at hr
      split at hr
      · rename_i r1 s1 h1
        split at hr
        · rename_i rs1 s2 h2
          simp only [Option.some.injEq, Prod.mk.injEq] at hr
          obtain ⟨rfl, rfl⟩ := hr
          obtain ⟨v, r, e1, e2, e3⟩ := rec_slim hE hok hR h1
          have hR2 := hput v
          rw [← e1] at hR2
          obtain ⟨rs, T, h4, h5, h6, h7, h8, h9⟩ := trace_slim hE os M1 M2 os1 (st := ⟨put (if (wanted st.T o.guard) = some true then unflag st.T o.cons else st.T) o.dst v, s1.H⟩) hs hR2 (Eq.trans (len_put_if _ _ _ _ _) hl) (by rw [e1, len_put_if]; exact hl') h2
          refine ⟨r :: rs, T, ?_, h5, h6, h7, by simp [h8], fun i r' hi => ?_⟩
          · simp only [traceOps, e2]
            rw [h4]
          · cases i with
            | zero => simp at hi; subst hi; exact ⟨r, rfl, e3⟩
            | succ i => simpa using h9 i r' (by simpa using hi)
        · simp at hr
      · simp at hr
    split at h
    · rename_i hok
      split at h
      · rename_i hdst
        split at h
        · rename_i os1 M1 hs
          simp only [Option.some.injEq, Prod.mk.injEq] at h
          obtain ⟨rfl, rfl⟩ := h
          exact cons hok hs (fun v => rel_put (nt := nt) (nt' := nt') hok hR hl hl' (v := v) none hdst M (.inl ⟨rfl, rfl, rfl⟩)) hr
        · simp at h
      · rename_i d hdst
        split at h
        · rename_i hlt
          split at h
          · rename_i os1 M1 hs
            simp only [Option.some.injEq, Prod.mk.injEq] at h
            obtain ⟨rfl, rfl⟩ := h
            exact cons hok hs (fun v => rel_put (nt := nt) (nt' := nt') hok hR hl hl' (v := v) (some d) hdst _ (.inr ⟨d, _, rfl, rfl, hlt.1, hlt.2, rfl⟩)) hr
          · simp at h
        · simp at h
    · simp at h

theorem runAt_le {rs' rs : List Rec} (h : ∀ (i : Nat) r', rs'[i]? = some r' → ∃ r, rs[i]? = some r ∧ RecLe E' E lim r' r) {i : Nat} {H H' : AHeap} (hr : runAt E' lim rs' i H = some H') : runAt E lim rs i H = some H' := by
  unfold runAt at hr
  split at hr
  · rename_i o T v he
    obtain ⟨r, h1, h2⟩ := h i _ he
    split at hr
    · rename_i v' H1 ha
      have h3 := h2.aop _ _ ha
      have h4 := h2.v
      simp only at h4
      obtain ⟨o2, T2, v2⟩ := r
      simp only at h4; subst h4
      simp only [runAt, h1]
      simp only at h3
      rw [h3]; exact hr
    · simp at hr
  · rename_i o T he
    obtain ⟨r, h1, h2⟩ := h i _ he
    have h4 := h2.v
    simp only at h4
    obtain ⟨o2, T2, v2⟩ := r
    simp only at h4; subst h4
    simp only [runAt, h1]; exact hr
  · simp at hr

theorem explore_le {rs' rs : List Rec} (h : ∀ i H H', runAt E' lim rs' i H = some H' → runAt E lim rs i H = some H') {c : Chk} {Hf : AHeap} : ∀ (k : Nat) (S : List Nat) (hp : AHeap), explore E' lim rs' c Hf k S hp = true → explore E lim rs c Hf k S hp = true := by
  intro k
  induction k with
  | zero => intro S hp hx; simp [explore] at hx
  | succ k ih =>
    intro S hp hx
    simp only [explore, Bool.and_eq_true, List.all_eq_true, Bool.or_eq_true] at hx ⊢
    refine ⟨fun r hr => (hx.1 r hr).imp (fun q => q) fun q => ?_, ?_⟩
    · rw [Option.isSome_iff_exists] at q ⊢
      obtain ⟨y, hy⟩ := q
      exact ⟨y, h _ _ _ hy⟩
    · have hx2 := hx.2
      split at hx2
      · rename_i hc; rw [if_pos hc]; exact hx2
      · rename_i hc
        rw [if_neg hc]
        rw [List.all_eq_true] at hx2 ⊢
        intro e he
        have := hx2 e he
        simp only [Bool.or_eq_true] at this ⊢
        refine this.imp (fun q => q) fun q => ?_
        split at q
        · rename_i h' hr
          rw [h _ _ _ hr]
          exact ih _ _ q
        · cases q

theorem chain_le {rs' rs : List Rec} (h : ∀ i H H', runAt E' lim rs' i H = some H' → runAt E lim rs i H = some H') : ∀ (p : List (List Nat × Option Nat)) (hp : AHeap), chainOK E' lim rs' p hp = true → chainOK E lim rs p hp = true
  | [], hp, _ => rfl
  | (l, oe) :: p, hp, hx => by
    simp only [chainOK, Bool.and_eq_true, List.all_eq_true] at hx ⊢
    refine ⟨fun r hr => ?_, ?_⟩
    · have := hx.1 r hr
      rw [Option.isSome_iff_exists] at this ⊢
      obtain ⟨y, hy⟩ := this
      exact ⟨y, h _ _ _ hy⟩
    · have h2 := hx.2
      cases oe with
      | none => rfl
      | some e =>
        simp only at h2 ⊢
        split at h2
        · rename_i h' hr
          rw [h _ _ _ hr]
          exact chain_le h p h' h2
        · cases h2

theorem drawOK_le {rs' rs : List Rec} (h : ∀ i H H', runAt E' lim rs' i H = some H' → runAt E lim rs i H = some H') {c : Chk} (hth : thin rs c = thin rs' c) {hp Hf : AHeap} (hx : drawOK E' lim rs' c hp Hf = true) : drawOK E lim rs c hp Hf = true := by
  unfold drawOK at hx ⊢
  cases hp' : c.plan with
  | some p => rw [hp'] at hx; exact chain_le h p hp hx
  | none =>
    rw [hp'] at hx
    simp only at hx ⊢
    rw [hth]
    exact explore_le h _ _ _ hx

/-- Places beyond the kept ones. -/
def forgot (K : Nat) (os : List COper) : List Nat := ((os.filterMap (·.dst)).filter fun p => K ≤ p).eraseDups

def slimC (K nt nt' : Nat) (home : RM) : CCode → Option CCode
  | .skip => some .skip
  | .region ops chk fg => match slimOps chk.isNone K nt nt' home home ops with
    | some (ops', M) => if home.all (fun e => M.contains e && decide (e.p < K) && !fg.contains e.n) then some (.region ops' chk (forgot K ops')) else none
    | none => none
  | .seq a b => match slimC K nt nt' home a, slimC K nt nt' home b with
    | some a', some b' => some (.seq a' b')
    | _, _ => none
  | .cond c a b => if okO home [] c then match slimC K nt nt' home a, slimC K nt nt' home b with
    | some a', some b' => some (.cond (rnO home c) a' b')
    | _, _ => none
    else none
  | .block id a => (slimC K nt nt' home a).map (.block id)
  | .loop a => (slimC K nt nt' home a).map .loop
  | .exit id => some (.exit id)
  | .ret => some .ret

/-- The slim state. -/
structure SR (K nt nt' : Nat) (home : RM) (st s' : St) : Prop where
  rel : Rel home st.T s'.T
  len : st.T.length = nt
  len' : s'.T.length = nt'
  mem : st.H = s'.H

theorem getD_forget : ∀ (ns : List Nat) (T : List AV) (i : Nat), i ∉ ns → (forgetT T ns).getD i .undef = T.getD i .undef
  | [], T, i, _ => rfl
  | n :: ns, T, i, h => by
    simp only [List.mem_cons, not_or] at h
    simp only [forgetT]
    rw [getD_forget ns _ i h.2, getD_set, if_neg (fun q => h.1 q.1.symm)]

theorem region_slim (hE : Le E' E) {ops : List COper} {chk : Option Chk} {fg : List Nat} {c' : CCode} (hc : slimC K nt nt' home (.region ops chk fg) = some c') {st s' : St} (hs : SR K nt nt' home st s') {L' : (St → Option (St ⊕ (AExit × St))) → St → Option (AExit × St)} {x : AExit} {s2 : St}
    (h : evalC E' lim L' c' s' = some (x, s2)) : x = .normal ∧ ∃ st2, evalR E lim ops chk fg st = some st2 ∧ SR K nt nt' home st2 s2 := by
  simp only [slimC] at hc
  split at hc
  · rename_i ops' M hso
    split at hc
    · rename_i hall
      simp only [Option.some.injEq] at hc; subst hc
      simp only [List.all_eq_true, Bool.and_eq_true, decide_eq_true_eq, Bool.not_eq_true', List.contains_iff_mem] at hall
      simp only [evalC] at h
      split at h
      · rename_i s3 hr
        simp only [Option.some.injEq, Prod.mk.injEq] at h
        obtain ⟨rfl, rfl⟩ := h
        refine ⟨rfl, ?_⟩
        obtain ⟨T', H⟩ := s'
        have hm := hs.mem
        simp only at hm; subst hm
        have fin : ∀ {T : List AV} {s4 : St}, Rel M T s4.T → T.length = nt → s4.T.length = nt' → SR K nt nt' home ⟨forgetT T fg, s4.H⟩ ⟨forgetT s4.T (forgot K ops'), s4.H⟩ := fun {T s4} h1 h2 h3 => {
          rel := fun e he => by
            obtain ⟨⟨hh1, hh2⟩, hh3⟩ := hall e he
            have := h1 e hh1
            have hn1 : e.p ∉ forgot K ops' := fun q => by
              simp only [forgot, List.mem_eraseDups, List.mem_filter, decide_eq_true_eq] at q
              omega
            have hn2 : e.n ∉ fg := fun q => by
              have : fg.contains e.n = true := by simpa using q
              rw [this] at hh3; cases hh3
            rw [getD_forget _ _ _ hn1, getD_forget _ _ _ hn2]
            exact this
          len := by simp only [forget_len]; exact h2
          len' := by simp only [forget_len]; exact h3
          mem := rfl }
        cases chk with
        | none =>
          simp only [evalR] at hr
          split at hr
          · rename_i s4 hr4
            simp only [Option.some.injEq] at hr; subst hr
            obtain ⟨T, h1, h2, h3, h4⟩ := ops_slim hE _ ops home M ops' hso hs.rel hs.len hs.len' hr4
            refine ⟨_, ?_, fin h2 h3 h4⟩
            simp only [evalR, h1]
          · simp at hr
        | some c =>
          simp only [evalR] at hr
          split at hr
          · rename_i rs' s4 hr4
            split at hr
            · rename_i hx
              simp only [Option.some.injEq] at hr; subst hr
              obtain ⟨rs, T, h1, h2, h3, h4, h5, h6⟩ := trace_slim hE ops home M ops' hso hs.rel hs.len hs.len' hr4
              refine ⟨_, ?_, fin h2 h3 h4⟩
              have hin : ∀ i, inertAt rs i = inertAt rs' i := fun i => by
                unfold inertAt
                cases hi : rs'[i]? with
                | none =>
                  have : rs[i]? = none := by rw [List.getElem?_eq_none_iff] at hi ⊢; omega
                  rw [this]
                | some r' =>
                  obtain ⟨r, q1, q2⟩ := h6 i r' hi
                  rw [q1]
                  exact q2.inert.symm
              have hth : thin rs c = thin rs' c := by simp only [thin, hin]
              simp only [evalR, h1]
              rw [if_pos (drawOK_le (fun i H H' hr => runAt_le h6 hr) hth hx)]
            · simp at hr
          · simp at hr
      · simp at h
    · simp at hc
  · simp at hc

theorem evx_nil {st s' : St} (hs : SR K nt nt' home st s') {c : Opd} (hc : okO home [] c = true) : evx s'.T [] (rnO home c) = evx st.T [] c := evx_rn (cons := []) hs.rel hc

theorem joinT_getD : ∀ (xs ys : List AV) (i : Nat), xs.length = ys.length → (joinT xs ys).getD i .undef = if AV.beq (xs.getD i .undef) (ys.getD i .undef) = true then xs.getD i .undef else .undef
  | [], [], i, _ => by simp [joinT]
  | x :: xs, y :: ys, 0, _ => by simp [joinT]
  | x :: xs, y :: ys, i + 1, hl => by simpa [joinT] using joinT_getD xs ys i (by simpa using hl)
  | [], _ :: _, _, hl => by simp at hl
  | _ :: _, [], _, hl => by simp at hl

theorem AV.beq_iff (x y : AV) : AV.beq x y = true ↔ x = y := ⟨AV.beq_eq, fun h => by subst h; exact AV.beq_self x⟩

/-- The two ways' ends meet alike, where every place is its slot's own. -/
theorem sr_join (hex : ∀ e ∈ home, e.ex = true) {a b a' b' : St} (h1 : SR K nt nt' home a a') (h2 : SR K nt nt' home b b') (hH : a'.H = b'.H) : SR K nt nt' home ⟨joinT a.T b.T, a.H⟩ ⟨joinT a'.T b'.T, a'.H⟩ where
  rel e he := by
    have q1 := h1.rel e he
    have q2 := h2.rel e he
    rw [if_pos (hex e he)] at q1 q2 ⊢
    simp only
    rw [joinT_getD _ _ _ (by rw [h1.len', h2.len']), joinT_getD _ _ _ (by rw [h1.len, h2.len]), q1, q2]
  len := by rw [joinT_len _ _ (by rw [h1.len, h2.len])]; exact h1.len
  len' := by rw [joinT_len _ _ (by rw [h1.len', h2.len'])]; exact h1.len'
  mem := h1.mem

theorem code_slim (hE : Le E' E) (hex : ∀ e ∈ home, e.ex = true) {k : Nat} : ∀ (c c' : CCode) {st s' : St} {x : AExit} {s2 : St}, slimC K nt nt' home c = some c' → SR K nt nt' home st s' → evalC E' lim (fun b s => loopN b k s) c' s' = some (x, s2) →
    ∃ st2, evalC E lim (fun b s => loopN b k s) c st = some (x, st2) ∧ SR K nt nt' home st2 s2
  | .skip, c', st, s', x, s2, hc, hs, h => by
    simp only [slimC, Option.some.injEq] at hc; subst hc
    simp only [evalC, Option.some.injEq, Prod.mk.injEq] at h
    obtain ⟨rfl, rfl⟩ := h
    exact ⟨st, rfl, hs⟩
  | .exit id, c', st, s', x, s2, hc, hs, h => by
    simp only [slimC, Option.some.injEq] at hc; subst hc
    simp only [evalC, Option.some.injEq, Prod.mk.injEq] at h
    obtain ⟨rfl, rfl⟩ := h
    exact ⟨st, rfl, hs⟩
  | .ret, c', st, s', x, s2, hc, hs, h => by
    simp only [slimC, Option.some.injEq] at hc; subst hc
    simp only [evalC, Option.some.injEq, Prod.mk.injEq] at h
    obtain ⟨rfl, rfl⟩ := h
    exact ⟨st, rfl, hs⟩
  | .region ops chk fg, c', st, s', x, s2, hc, hs, h => by
    obtain ⟨rfl, st2, h1, h2⟩ := region_slim hE hc hs h
    exact ⟨st2, by simp only [evalC, h1], h2⟩
  | .seq a b, c', st, s', x, s2, hc, hs, h => by
    simp only [slimC] at hc
    split at hc
    · rename_i a' b' ha hb
      simp only [Option.some.injEq] at hc; subst hc
      simp only [evalC] at h ⊢
      split at h
      · rename_i s3 h3
        obtain ⟨st3, q1, q2⟩ := code_slim hE hex a a' ha hs h3
        rw [q1]
        exact code_slim hE hex b b' hb q2 h
      · rename_i hne
        obtain ⟨st3, q1, q2⟩ := code_slim hE hex a a' ha hs h
        rw [q1]
        refine ⟨st3, ?_, q2⟩
        split
        · rename_i heq
          simp only [Option.some.injEq, Prod.mk.injEq] at heq
          obtain ⟨rfl, rfl⟩ := heq
          exact absurd h (hne _)
        · rfl
    · simp at hc
  | .cond c a b, c', st, s', x, s2, hc, hs, h => by
    simp only [slimC] at hc
    split at hc
    · rename_i hok
      split at hc
      · rename_i a' b' ha hb
        simp only [Option.some.injEq] at hc; subst hc
        simp only [evalC] at h ⊢
        rw [evx_nil hs hok] at h
        split at h
        · rename_i t ht
          cases t with
          | true =>
            obtain ⟨st3, q1, q2⟩ := code_slim hE hex a a' ha hs (by simpa using h)
            exact ⟨st3, by simpa using q1, q2⟩
          | false =>
            obtain ⟨st3, q1, q2⟩ := code_slim hE hex b b' hb hs (by simpa using h)
            exact ⟨st3, by simpa using q1, q2⟩
        · rename_i ht
          split at h
          · rename_i r1 r2 h1 h2
            obtain ⟨x1, s3⟩ := r1
            obtain ⟨x2, s4⟩ := r2
            simp only [joinR] at h
            split at h
            · rename_i hj
              obtain ⟨rfl, hlen, hb'⟩ := hj
              simp only [Option.some.injEq, Prod.mk.injEq] at h
              obtain ⟨rfl, rfl⟩ := h
              obtain ⟨st3, q1, q2⟩ := code_slim hE hex a a' ha hs h1
              obtain ⟨st4, q3, q4⟩ := code_slim hE hex b b' hb hs h2
              have hH := heapBeq_eq hb'
              refine ⟨_, ?_, sr_join hex q2 q4 hH⟩
              simp only [q1, q3, joinR]
              rw [if_pos ⟨trivial, by rw [q2.len, q4.len], by rw [q2.mem, q4.mem]; exact hb'⟩]
            · simp at h
          · simp at h
        · simp at h
      · simp at hc
    · simp at hc
  | .block id a, c', st, s', x, s2, hc, hs, h => by
    simp only [slimC, Option.map_eq_some_iff] at hc
    obtain ⟨a', ha, rfl⟩ := hc
    simp only [evalC] at h ⊢
    split at h
    · rename_i i s3 h3
      obtain ⟨st3, q1, q2⟩ := code_slim hE hex a a' ha hs h3
      simp only [q1]
      split at h
      · rename_i hi
        simp only [Option.some.injEq, Prod.mk.injEq] at h
        obtain ⟨rfl, rfl⟩ := h
        exact ⟨st3, by rw [if_pos hi], q2⟩
      · rename_i hi
        simp only [Option.some.injEq, Prod.mk.injEq] at h
        obtain ⟨rfl, rfl⟩ := h
        exact ⟨st3, by rw [if_neg hi], q2⟩
    · rename_i hne
      obtain ⟨st3, q1, q2⟩ := code_slim hE hex a a' ha hs h
      rw [q1]
      refine ⟨st3, ?_, q2⟩
      split
      · rename_i heq
        simp only [Option.some.injEq, Prod.mk.injEq] at heq
        obtain ⟨rfl, rfl⟩ := heq
        exact absurd h (hne _ _)
      · rfl
  | .loop a, c', st, s', x, s2, hc, hs, h => by
    simp only [slimC, Option.map_eq_some_iff] at hc
    obtain ⟨a', ha, rfl⟩ := hc
    simp only [evalC] at h ⊢
    have key : ∀ (m : Nat) {st s' : St}, SR K nt nt' home st s' → loopN (fun s => match evalC E' lim (fun b s => loopN b k s) a' s with
          | some (.normal, s') => some (.inl s')
          | some r => some (.inr r)
          | none => none) m s' = some (x, s2) → ∃ st2, loopN (fun s => match evalC E lim (fun b s => loopN b k s) a s with
          | some (.normal, s') => some (.inl s')
          | some r => some (.inr r)
          | none => none) m st = some (x, st2) ∧ SR K nt nt' home st2 s2 := by
      intro m
      induction m with
      | zero => intro st s' _ h; simp [loopN] at h
      | succ m ih =>
        intro st s' hs h
        simp only [loopN] at h ⊢
        cases he : evalC E' lim (fun b s => loopN b k s) a' s' with
        | none => rw [he] at h; simp at h
        | some r =>
          obtain ⟨e, s3⟩ := r
          obtain ⟨st3, q1, q2⟩ := code_slim hE hex a a' ha hs he
          rw [he] at h
          rw [q1]
          cases e with
          | normal => exact ih q2 h
          | exit i =>
            simp only [Option.some.injEq, Prod.mk.injEq] at h ⊢
            obtain ⟨rfl, rfl⟩ := h
            exact ⟨st3, ⟨rfl, rfl⟩, q2⟩
          | ret =>
            simp only [Option.some.injEq, Prod.mk.injEq] at h ⊢
            obtain ⟨rfl, rfl⟩ := h
            exact ⟨st3, ⟨rfl, rfl⟩, q2⟩
    exact key k hs h

/-- Results. -/
def rnRes (home : RM) : CRes → CRes
  | .t n => .t (posOf home n)
  | .cell n a s => .cell (posOf home n) a s

def CRes.slot : CRes → Nat
  | .t n => n
  | .cell n _ _ => n

theorem res_slim (hex : ∀ e ∈ home, e.ex = true) {st s' : St} (hs : SR K nt nt' home st s') : ∀ (rs : List CRes), (rs.all fun r => (mget home r.slot).isSome) = true → resV s'.T s'.H (rs.map (rnRes home)) = resV st.T st.H rs
  | [], _ => rfl
  | r :: rs, h => by
    simp only [List.all_cons, Bool.and_eq_true] at h
    obtain ⟨h1, h2⟩ := h
    rw [Option.isSome_iff_exists] at h1
    obtain ⟨e, he⟩ := h1
    obtain ⟨m1, m2, m3⟩ := mget_some he
    have hr := hs.rel e m1
    rw [if_pos (hex e m1)] at hr
    have ih := res_slim hex hs rs h2
    cases r with
    | t n =>
      simp only [CRes.slot] at m2 m3
      simp only [List.map_cons, rnRes, resV, ih, m3, hr, m2]
    | cell n a s =>
      simp only [CRes.slot] at m2 m3
      simp only [List.map_cons, rnRes, resV, ih, m3, hr, m2, hs.mem]

/-- The kept slots' places: arguments first. -/
def homeOf (na : Nat) (kp : List Nat) : RM := ((List.range na) ++ kp.filter fun n => na ≤ n).zipIdx.map fun q => ⟨q.1, q.2, true⟩

def slimFn (kp : List Nat) (nt' : Nat) (fn : CFn) : Option CFn :=
  let home := homeOf fn.nargs kp
  if (home.all fun e => decide (e.n < max fn.nargs fn.ntmps) && decide (e.p < nt') && (decide (e.n < fn.nargs) == decide (e.p < fn.nargs)) && (decide (e.n < fn.nargs → e.p = e.n))) && (fn.res.all fun r => (mget home r.slot).isSome) && decide (fn.nargs ≤ nt') then
    (slimC home.length (max fn.nargs fn.ntmps) nt' home fn.body).map fun b => ⟨fn.nargs, nt', fn.keep, b, fn.res.map (rnRes home)⟩
  else none

theorem fn_slim (hE : Le E' E) {k : Nat} {kp : List Nat} {fn fn' : CFn} (hf : slimFn kp nt' fn = some fn') {args : List AV} {H : AHeap} {r : AV × AHeap} (h : evalF E' (fun b s => loopN b k s) fn' lim args H = some r) : evalF E (fun b s => loopN b k s) fn lim args H = some r := by
  simp only [slimFn] at hf
  split at hf
  · rename_i hck
    simp only [Option.map_eq_some_iff] at hf
    obtain ⟨b, hb, rfl⟩ := hf
    simp only [Bool.and_eq_true, List.all_eq_true, decide_eq_true_eq, beq_iff_eq] at hck
    obtain ⟨⟨hck1, hck2⟩, hck3⟩ := hck
    have hex : ∀ e ∈ homeOf fn.nargs kp, e.ex = true := fun e he => by
      simp only [homeOf, List.mem_map] at he
      obtain ⟨q, _, rfl⟩ := he
      rfl
    simp only [evalF] at h ⊢
    split at h
    · rename_i hl
      rw [if_pos hl]
      split at h
      · simp at h
      · rename_i x st hne he
        have hs : SR (homeOf fn.nargs kp).length (max fn.nargs fn.ntmps) nt' (homeOf fn.nargs kp) ⟨args ++ List.replicate (fn.ntmps - args.length) (.tuple []), H⟩ ⟨args ++ List.replicate (nt' - args.length) (.tuple []), H⟩ := {
          rel := fun e hm => by
            obtain ⟨⟨⟨q1, q2⟩, q3⟩, q4⟩ := hck1 e hm
            rw [if_pos (hex e hm)]
            simp only [List.getD]
            by_cases hn : e.n < fn.nargs
            · have := q4 hn
              rw [this, List.getElem?_append_left (by omega), List.getElem?_append_left (by omega)]
            · have hp : ¬ e.p < fn.nargs := fun q => by
                have : decide (e.p < fn.nargs) = true := decide_eq_true q
                rw [this] at q3
                exact hn (of_decide_eq_true q3)
              rw [List.getElem?_append_right (by omega), List.getElem?_append_right (by omega)]
              have e1 : (List.replicate (nt' - args.length) (AV.tuple []))[e.p - args.length]? = some (.tuple []) := by
                rw [List.getElem?_replicate, if_pos (by omega)]
              have e2 : (List.replicate (fn.ntmps - args.length) (AV.tuple []))[e.n - args.length]? = some (.tuple []) := by
                rw [List.getElem?_replicate, if_pos (by omega)]
              rw [e1, e2]
          len := by simp only [List.length_append, List.length_replicate]; omega
          len' := by simp only [List.length_append, List.length_replicate]; omega
          mem := rfl }
        obtain ⟨st2, q1, q2⟩ := code_slim hE hex _ _ hb hs he
        rw [q1]
        have hres := res_slim hex q2 fn.res (by rw [List.all_eq_true]; exact hck2)
        split
        · rename_i heq
          simp only [Option.some.injEq, Prod.mk.injEq] at heq
          obtain ⟨rfl, rfl⟩ := heq
          exact (hne _ rfl).elim
        · rename_i x2 st3 _ heq
          simp only [Option.some.injEq, Prod.mk.injEq] at heq
          obtain ⟨rfl, rfl⟩ := heq
          rw [hres, ← q2.mem] at h
          exact h
        · rename_i heq; simp at heq
      · simp at h
    · simp at h
  · simp at hf

end

/-- A whole program. -/
theorem env_slim {code code' : FuncId → Option CFn} {prim : FuncId → Option AFun} (hc : ∀ f c', code' f = some c' → ∃ c kp nt', code f = some c ∧ slimFn kp nt' c = some c') : ∀ k, Le (envN code' prim k) (envN code prim k)
  | 0 => fun f lim a H r h => by simp [envN] at h
  | k + 1 => fun f lim a H r h => by
    simp only [envN] at h ⊢
    cases hF : prim f with
    | some F => simp only [hF] at h ⊢; exact h
    | none =>
      simp only [hF] at h ⊢
      cases hc' : code' f with
      | none => simp only [hc'] at h; simp at h
      | some c' =>
        simp only [hc'] at h
        obtain ⟨c, kp, nt', h1, h2⟩ := hc f c' hc'
        simp only [h1]
        exact fn_slim (env_slim hc k) h2 h

end Go.Abs

/- From slim code to the call that a row asks for. -/
namespace Go.Abs
open Go.RowKit

variable [Tab]

theorem nat0 : ((0 : Nat) : Int) = 0 := rfl
theorem nat1 : ((1 : Nat) : Int) = 1 := rfl

/-- A row of functions as they were read and made slim. -/
def AllSlim (P : Program) : Nat → List (Option CFn) → Prop
  | _, [] => True
  | n, none :: l => AllSlim P (n + 1) l
  | n, some c :: l => (∃ tk keep kp nt', (compileFn P tk keep kp n).bind (slimFn kp nt') = some c) ∧ AllSlim P (n + 1) l

theorem AllSlim.get {P : Program} : ∀ {l : List (Option CFn)} {n : Nat}, AllSlim P n l → ∀ (i : Nat) c, l[i]? = some (some c) → ∃ tk keep kp nt', (compileFn P tk keep kp (n + i)).bind (slimFn kp nt') = some c
  | [], _, _, i, c, h => by simp at h
  | none :: l, n, hl, i, c, h => by
    cases i with
    | zero => simp at h
    | succ i => have := AllSlim.get (l := l) (n := n + 1) hl i c (by simpa using h); rwa [Nat.add_assoc, Nat.add_comm 1 i] at this
  | some d :: l, n, hl, i, c, h => by
    cases i with
    | zero => simp at h; subst h; exact hl.1
    | succ i => have := AllSlim.get (l := l) (n := n + 1) hl.2 i c (by simpa using h); rwa [Nat.add_assoc, Nat.add_comm 1 i] at this

/-- What a list of functions says of a number. -/
def codeOf (l : List (Option CFn)) (f : FuncId) : Option CFn := (l[f]?).join

theorem codeOf_some {l : List (Option CFn)} {f : FuncId} {c : CFn} (h : codeOf l f = some c) : l[f]? = some (some c) := by
  unfold codeOf at h
  cases e : l[f]? with
  | none => rw [e] at h; cases h
  | some x => rw [e] at h; simp at h; rw [h]

/-- The code that slim code was made of. -/
theorem slim_of {P : Program} {l : List (Option CFn)} (h : AllSlim P 0 l) : ∃ code, CodeOK P code ∧ ∀ f c', codeOf l f = some c' → ∃ c kp nt', code f = some c ∧ slimFn kp nt' c = some c' := by
  have key : ∀ f c', codeOf l f = some c' → ∃ c tk keep kp nt', compileFn P tk keep kp f = some c ∧ slimFn kp nt' c = some c' := fun f c' hc => by
    obtain ⟨tk, keep, kp, nt', h1⟩ := h.get f c' (codeOf_some hc)
    rw [Nat.zero_add] at h1
    simp only [Option.bind_eq_some_iff] at h1
    obtain ⟨c, h2, h3⟩ := h1
    exact ⟨c, tk, keep, kp, nt', h2, h3⟩
  classical
  refine ⟨fun f => if hf : ∃ c tk keep kp nt' c', codeOf l f = some c' ∧ compileFn P tk keep kp f = some c ∧ slimFn kp nt' c = some c' then some (Classical.choose hf) else none, fun f c hc => ?_, fun f c' hc => ?_⟩
  · simp only at hc
    split at hc
    · rename_i hf
      simp only [Option.some.injEq] at hc; subst hc
      obtain ⟨tk, keep, kp, nt', c', h1, h2, _⟩ := Classical.choose_spec hf
      exact ⟨tk, keep, kp, h2⟩
    · cases hc
  · obtain ⟨c, tk, keep, kp, nt', h1, h2⟩ := key f c' hc
    have hf : ∃ c tk keep kp nt' c', codeOf l f = some c' ∧ compileFn P tk keep kp f = some c ∧ slimFn kp nt' c = some c' := ⟨c, tk, keep, kp, nt', c', hc, h1, h2⟩
    obtain ⟨tk, keep, kp, nt', c'', h1, _, h3⟩ := Classical.choose_spec hf
    rw [hc] at h1
    simp only [Option.some.injEq] at h1; subst h1
    exact ⟨_, kp, nt', dif_pos hf, h3⟩

/-- The call that a row asks for, of slim code; some functions stand for themselves. -/
theorem slim_callsP {P : Program} {l : List (Option CFn)} {prim : FuncId → Option AFun} (hmx : P.follows .mixedOrders = true) (hp : ∀ f F, prim f = some F → FSound P f F) (hc : AllSlim P 0 l) {f : FuncId} (hpf : prim f = none) {args : List AV} {b : Bool}
    (h : Ev (envN (codeOf l) prim) f 0 args [] (.d (.bool b)) []) {vals : Array Value} {w : World} (hG : TabOK w) (hv : ArgsOK w args vals.toList) : Calls P f vals w fun e w' => e = .returned (.bool b) ∧ Below w.heap.size w w' := by
  obtain ⟨code, h1, h2⟩ := slim_of hc
  obtain ⟨k, hk⟩ := Ev.at h
  exact law_calls hmx h1 hp hpf (env_slim h2 k f 0 args [] _ hk) hG hv

/-- The call that a row asks for, of slim code. -/
theorem slim_calls {P : Program} {l : List (Option CFn)} (hmx : P.follows .mixedOrders = true) (hc : AllSlim P 0 l) {f : FuncId} {args : List AV} {b : Bool}
    (h : Ev (envN (codeOf l) noPrim) f 0 args [] (.d (.bool b)) []) {vals : Array Value} {w : World} (hG : TabOK w) (hv : ArgsOK w args vals.toList) : Calls P f vals w fun e w' => e = .returned (.bool b) ∧ Below w.heap.size w w' := by
  exact slim_callsP hmx (noPrim_ok P) hc rfl h hG hv

end Go.Abs

/- The same run over a memory that lies ahead: whatever a call does in an empty memory, it does in any. -/
namespace Go.Abs

variable [Tab]

mutual
def AV.sh (b : Nat) : AV → AV
  | .undef => .undef
  | .d x => .d x
  | .fslice xs => .fslice xs
  | .lit xs => .lit xs
  | .ptr r off => .ptr (r + b) off
  | .pref cs => .pref cs
  | .oslice r off len cap sz => .oslice (r + b) off len cap sz
  | .agg cs => .agg (AV.shs b cs)
  | .tuple cs => .tuple (AV.shs b cs)
  | .mapr r => .mapr (r + b)
  | .nilmap => .nilmap
  | .func f cs => .func f (AV.shs b cs)
  | .nilfunc => .nilfunc
  | .iface t v => .iface t (AV.sh b v)
  | .niliface => .niliface
  | .ubool => .ubool
def AV.shs (b : Nat) : List AV → List AV
  | [] => []
  | v :: vs => AV.sh b v :: AV.shs b vs
end

def AObj.sh (b : Nat) : AObj → AObj
  | .cells cs => .cells (cs.map (AV.sh b))
  | .map kk es => .map kk (es.map fun e => (e.1, AV.sh b e.2))
  | .siter s pos => .siter s pos
  | .dead => .dead

def shH (B : AHeap) (H : AHeap) : AHeap := B ++ H.map (AObj.sh B.length)

section
variable {b : Nat}

theorem shs_map : ∀ cs : List AV, AV.shs b cs = cs.map (AV.sh b)
  | [] => rfl
  | v :: vs => by rw [AV.shs, shs_map vs]; rfl

theorem sh_unf (v : AV) : v.unf.sh b = (v.sh b).unf := by cases v <;> rfl
theorem sh_isCell (v : AV) : (v.sh b).isCell = v.isCell := by cases v <;> rfl
theorem sh_cells (v : AV) : (v.sh b).cells = v.cells.map (AV.sh b) := by
  cases v <;> simp [AV.sh, AV.cells, shs_map]
theorem sh_all (cs : List AV) : (cs.map (AV.sh b)).all AV.isCell = cs.all AV.isCell := by
  induction cs with
  | nil => rfl
  | cons c cs ih => simp only [List.map_cons, List.all_cons, sh_isCell, ih]

mutual
theorem sh_toD : ∀ v : AV, (v.sh b).toD = v.toD
  | .undef => rfl
  | .d _ => rfl
  | .fslice _ => rfl
  | .lit _ => rfl
  | .ptr _ _ => rfl
  | .pref _ => rfl
  | .oslice _ _ _ _ _ => rfl
  | .agg cs => by rw [AV.sh, AV.toD, AV.toD, sh_toDs cs]
  | .tuple _ => rfl
  | .mapr _ => rfl
  | .nilmap => rfl
  | .func _ _ => rfl
  | .nilfunc => rfl
  | .iface _ _ => rfl
  | .niliface => rfl
  | .ubool => rfl
theorem sh_toDs : ∀ vs : List AV, AV.toDs (AV.shs b vs) = AV.toDs vs
  | [] => rfl
  | v :: vs => by rw [AV.shs, AV.toDs, AV.toDs, sh_toD v, sh_toDs vs]
end

theorem sh_toDs' (vs : List AV) : AV.toDs (vs.map (AV.sh b)) = AV.toDs vs := by rw [← shs_map, sh_toDs]

theorem sh_pures : ∀ vs : List AV, AV.pures (vs.map (AV.sh b)) = AV.pures vs
  | [] => rfl
  | v :: vs => by
    have ih := sh_pures vs
    cases v <;> simp [AV.sh, AV.pures, ih]

theorem sh_pures_id : ∀ {vs : List AV} {ds : List D}, AV.pures vs = some ds → vs.map (AV.sh b) = vs
  | [], _, _ => rfl
  | v :: vs, ds, h => by
    cases v with
    | d x =>
      simp only [AV.pures] at h
      split at h
      · rename_i h1
        simp only [List.map_cons, sh_pures_id h1]; rfl
      · cases h
    | _ => simp [AV.pures] at h

theorem sh_mkAgg (cs : List AV) : AV.mkAgg (cs.map (AV.sh b)) = (AV.mkAgg cs).sh b := by
  simp only [AV.mkAgg, sh_pures]
  split
  · rfl
  · simp [AV.sh, shs_map]

theorem sh_elems (v : AV) : (v.sh b).elems = v.elems := by cases v <;> rfl
theorem sh_int (v : AV) : (v.sh b).int? = v.int? := by cases v <;> rfl

theorem sh_splice (cs : List AV) (off : Nat) (vs : List AV) : splice (cs.map (AV.sh b)) off (vs.map (AV.sh b)) = (splice cs off vs).map (AV.sh b) := by
  simp [splice, List.map_take, List.map_drop]

theorem sh_fill : ∀ (ps : List (Nat × Nat × AV)) (cs : List AV), fill (cs.map (AV.sh b)) (ps.map fun p => (p.1, p.2.1, p.2.2.sh b)) = (fill cs ps).map fun r => r.map (AV.sh b)
  | [], cs => rfl
  | (off, size, v) :: ps, cs => by
    simp only [List.map_cons, fill, sh_cells, List.length_map, sh_all]
    split
    · rw [← sh_fill ps, ← sh_splice]
      simp only [List.map_map]
      congr 3
      funext a
      exact (sh_unf a).symm
    · rfl

theorem sh_chunks (sz : Nat) (agg : Bool) : ∀ (n : Nat) (cs : List AV), chunks sz agg n (cs.map (AV.sh b)) = chunks sz agg n cs
  | 0, cs => rfl
  | n + 1, cs => by
    simp only [chunks, ← List.map_take, ← List.map_drop, sh_chunks sz agg n, sh_toDs']

theorem sh_bytes : ∀ vs : List AV, AV.bytes (vs.map (AV.sh b)) = AV.bytes vs
  | [] => rfl
  | v :: vs => by
    have ih := sh_bytes vs
    cases v with
    | d x => cases x with
      | int k n => cases k <;> simp [AV.sh, AV.bytes, ih]
      | _ => simp [AV.sh, AV.bytes]
    | _ => simp [AV.sh, AV.bytes]

theorem sh_readCells (agg : Bool) (sz : Nat) (cs : List AV) (off : Nat) : readCells agg sz (cs.map (AV.sh b)) off = (readCells agg sz cs off).map (AV.sh b) := by
  unfold readCells
  split
  · simp only [List.length_map]
    split
    · simp only [Option.map_some, ← sh_mkAgg, ← List.map_drop, ← List.map_take, List.map_map]
      congr 2
      apply List.map_congr_left
      intro a _
      exact (sh_unf a).symm
    · rfl
  · simp only [List.getElem?_map, Option.map_map]
    congr 1
    funext v
    exact (sh_unf v).symm

theorem sh_findE (k : D) : ∀ es : List (D × AV), findE k (es.map fun e => (e.1, AV.sh b e.2)) = (findE k es).map (AV.sh b)
  | [] => rfl
  | (j, v) :: es => by
    simp only [List.map_cons, findE]
    split
    · rfl
    · exact sh_findE k es

theorem sh_setE (k : D) (w : AV) : ∀ es : List (D × AV), setE k (w.sh b) (es.map fun e => (e.1, AV.sh b e.2)) = (setE k w es).map fun e => (e.1, AV.sh b e.2)
  | [] => rfl
  | (j, v) :: es => by
    simp only [List.map_cons, setE]
    split
    · rfl
    · simp only [List.map_cons, sh_setE k w es]

theorem sh_delE (k : D) : ∀ es : List (D × AV), delE k (es.map fun e => (e.1, AV.sh b e.2)) = (delE k es).map fun e => (e.1, AV.sh b e.2)
  | [] => rfl
  | (j, v) :: es => by
    simp only [List.map_cons, delE]
    split
    · rfl
    · simp only [List.map_cons, sh_delE k es]

theorem sh_foldInt (f : Int → Int → Int) (vs : List AV) : foldInt f (vs.map (AV.sh b)) = foldInt f vs := by
  cases vs with
  | nil => rfl
  | cons v vs =>
    cases v with
    | d x => cases x with
      | int k n =>
        simp only [List.map_cons, AV.sh, foldInt]
        rw [List.foldl_map]
        congr 2
        funext acc w
        cases acc <;> cases w <;> rfl
      | _ => rfl
    | _ => rfl

theorem sh_nilEq (k : EqK) (x y : AV) : nilEq k (x.sh b) (y.sh b) = nilEq k x y := by
  cases x with
  | d dx => cases y with
    | d dy => cases dx <;> cases dy <;> cases k <;> rfl
    | _ => cases dx <;> cases k <;> rfl
  | _ => cases y with
    | d dy => cases dy <;> cases k <;> rfl
    | _ => cases k <;> rfl

theorem sh_binV (op : BinOp) (k : EqK) (x y : AV) : binV op k (x.sh b) (y.sh b) = (binV op k x y).map (AV.sh b) := by
  have dd : ∀ (o : Option D), o.map AV.d = (o.map AV.d).map (AV.sh b) := fun o => by cases o <;> rfl
  have bb : ∀ (o : Option Bool), o.map boolD = (o.map boolD).map (AV.sh b) := fun o => by cases o <;> rfl
  have nb : ∀ (o : Option Bool), (o.map fun c => boolD (!c)) = (o.map fun c => boolD (!c)).map (AV.sh b) := fun o => by cases o <;> rfl
  have gen : (match op with
      | .eql => (nilEq k (x.sh b) (y.sh b)).map boolD
      | .neq => (nilEq k (x.sh b) (y.sh b)).map fun b => boolD (!b)
      | _ => none) = (match op with
      | .eql => (nilEq k x y).map boolD
      | .neq => (nilEq k x y).map fun b => boolD (!b)
      | _ => none).map (AV.sh b) := by
    rw [sh_nilEq]
    cases op <;> first | rfl | exact bb _ | exact nb _
  cases x with
  | d x' =>
    cases y with
    | d y' =>
      cases x' <;> cases y' <;> (first | exact gen | skip)
      · simp only [AV.sh, binV]
        split
        · exact dd _
        · split
          · exact dd _
          · rfl
      · simp only [AV.sh, binV]
        split
        · cases op <;> rfl
        · rfl
      · simp only [AV.sh, binV]; exact dd _
      · simp only [AV.sh, binV]
        cases k with
        | plain ks =>
          simp only
          split
          · cases op <;> rfl
          · rfl
        | _ => rfl
    | _ => cases x' <;> exact gen
  | _ => cases y <;> exact gen

theorem sh_unV (op : UnOp) (x : AV) : unV op (x.sh b) = (unV op x).map (AV.sh b) := by
  cases op <;> cases x <;> first | rfl | (rename_i d; cases d <;> rfl)

/-! Memory. -/
variable {B : AHeap}

theorem shH_get {H : AHeap} {r : Nat} {o : AObj} (h : H[r]? = some o) : (shH B H)[r + B.length]? = some (o.sh B.length) := by
  simp only [shH]
  rw [List.getElem?_append_right (by omega), Nat.add_sub_cancel, List.getElem?_map, h]; rfl

theorem shH_set (H : AHeap) (r : Nat) (o : AObj) : (shH B H).set (r + B.length) (o.sh B.length) = shH B (H.set r o) := by
  simp only [shH]
  rw [List.set_append_right _ _ (by omega), Nat.add_sub_cancel, List.map_set]

theorem shH_add (H : AHeap) (o : AObj) : shH B H ++ [o.sh B.length] = shH B (H ++ [o]) := by simp [shH]
theorem shH_len (H : AHeap) : (shH B H).length = H.length + B.length := by simp [shH]; omega

theorem sh_srcOf (str agg : Bool) {H : AHeap} {y : AV} {ys : List D} (h : srcOf str agg H y = some ys) : srcOf str agg (shH B H) (y.sh B.length) = some ys := by
  unfold srcOf at h ⊢
  cases str <;> cases y <;> simp only [AV.sh, reduceCtorEq] at h ⊢
  · rename_i x; cases x <;> simp_all
  · exact h
  · exact h
  · rename_i r off len cap sz
    split at h
    · rename_i cs hg
      rw [shH_get hg]
      simp only [AObj.sh, List.length_map]
      split at h
      · rename_i hl
        rw [if_pos hl, ← List.map_drop, sh_chunks]; exact h
      · simp at h
    · simp at h
  · rename_i x; cases x <;> simp_all

theorem sh_srcC (str : Bool) (sz : Nat) {H : AHeap} {y : AV} {k : Nat} {ys : List AV} (h : srcC str sz H y = some (k, ys)) : srcC str sz (shH B H) (y.sh B.length) = some (k, ys.map (AV.sh B.length)) := by
  have other : (match srcOf str (sz != 1) H y with | some ys => if headSz sz ys = true then some (ys.length, (ys.flatMap D.cells).map AV.d) else none | none => none) = some (k, ys) →
      (match srcOf str (sz != 1) (shH B H) (y.sh B.length) with | some ys => if headSz sz ys = true then some (ys.length, (ys.flatMap D.cells).map AV.d) else none | none => none) = some (k, ys.map (AV.sh B.length)) := by
    intro h
    split at h
    · rename_i xs hx
      rw [sh_srcOf _ _ hx]
      simp only
      split at h
      · rename_i hh
        rw [if_pos hh]
        injection h with h; injection h with h1 h2
        subst h1 h2
        rw [List.map_map]
        rfl
      · cases h
    · cases h
  by_cases ho : ∃ r off len cap z, str = false ∧ y = .oslice r off len cap z
  · obtain ⟨r, off, len, cap, z, rfl, rfl⟩ := ho
    simp only [srcC, AV.sh] at h ⊢
    split at h
    · rename_i cs hg
      rw [shH_get hg]
      simp only [AObj.sh, List.length_map]
      split at h
      · rename_i hl
        rw [if_pos hl]
        injection h with h; injection h with h1 h2
        subst h1 h2
        rw [← List.map_drop, ← List.map_take, List.map_map, List.map_map]
        congr 2
        apply List.map_congr_left
        intro a _
        exact (sh_unf a).symm
      · cases h
    · cases h
  · have e1 : ∀ (K : AHeap) (v : AV), (∀ r off len cap z, str = false → v ≠ .oslice r off len cap z) → srcC str sz K v = match srcOf str (sz != 1) K v with | some ys => if headSz sz ys = true then some (ys.length, (ys.flatMap D.cells).map AV.d) else none | none => none := by
      intro K v hv
      unfold srcC
      split
      · rename_i r off len cap z
        exact absurd rfl (hv _ _ _ _ _ rfl)
      · rfl
    rw [e1 _ _ (fun r off len cap z hs e => ho ⟨r, off, len, cap, z, hs, e⟩)] at h
    rw [e1 _ _ (fun r off len cap z hs e => by
      cases y with
      | oslice a b c d f => exact ho ⟨a, b, c, d, f, hs, rfl⟩
      | _ => cases e)]
    exact other h

theorem sh_growable (v : AV) : (v.sh b).growable = v.growable := by
  cases v with
  | fslice xs => rfl
  | _ => rfl

theorem sh_arrLen (H : AHeap) (r : Nat) : arrLen (shH B H) (r + B.length) = arrLen H r := by
  simp only [arrLen, shH]
  rw [List.getElem?_append_right (by omega), Nat.add_sub_cancel, List.getElem?_map]
  cases H[r]? with
  | none => rfl
  | some o => cases o <;> simp [AObj.sh]

/-- No place in memory stands in it. -/
def AV.noRef (v : AV) : Bool := match v with
  | .undef | .d _ | .fslice _ | .lit _ | .pref _ | .nilmap | .nilfunc | .niliface | .ubool => true
  | .tuple vs => vs.isEmpty
  | .agg cs => cs.all fun c => match c with
    | .d _ | .fslice _ | .nilmap | .nilfunc | .niliface => true
    | _ => false
  | .func _ cs => cs.isEmpty
  | _ => false

theorem noRef_sh {v : AV} (h : v.noRef = true) : v.sh b = v := by
  cases v <;> simp only [AV.noRef, reduceCtorEq, Bool.false_eq_true] at h <;> (first | rfl | skip)
  · simp only [AV.sh, shs_map, AV.agg.injEq]
    rw [List.all_eq_true] at h
    have : ∀ c ∈ _, AV.sh b c = id c := fun c hc => by
      have := h c hc
      cases c <;> simp at this <;> rfl
    rw [List.map_congr_left this, List.map_id]
  · rw [List.isEmpty_iff] at h; subst h; rfl
  · rw [List.isEmpty_iff] at h; subst h; rfl

theorem noRef_all {vs : List AV} (h : vs.all AV.noRef = true) : vs.map (AV.sh b) = vs := by
  rw [List.all_eq_true] at h
  rw [List.map_congr_left (f := AV.sh b) (g := id) fun c hc => noRef_sh (h c hc), List.map_id]

def Opd.closed : Opd → Bool
  | .t _ => true
  | .c v => v.noRef

/-- The constants of an operation. -/
def COp.consts : COp → List AV
  | .new cs => cs
  | .build z _ => z
  | .buildSl _ z _ _ | .buildLit _ z _ _ => z.cells
  | .mkSl _ _ z _ _ => z
  | .lookup _ z _ _ _ => [z]
  | _ => []

def COp.closed (o : COp) : Bool := o.opds.all Opd.closed && o.consts.all AV.noRef

theorem evx_sh {T : List AV} {cons : List Nat} {x : Opd} (h : x.closed = true) : evx (T.map (AV.sh b)) cons x = (evx T cons x).sh b := by
  cases x with
  | c v => exact (noRef_sh h).symm
  | t n =>
    have e : (T.map (AV.sh b)).getD n .undef = (T.getD n .undef).sh b := by
      simp only [List.getD, List.getElem?_map]
      cases T[n]? <;> rfl
    simp only [evx, e]
    split
    · rfl
    · exact (sh_unf _).symm

/-- A call, over what lies ahead. -/
def ShE (B : AHeap) (E : AEnv) : Prop := ∀ f lim a H v H', E f lim a H = some (v, H') → E f (lim + B.length) (a.map (AV.sh B.length)) (shH B H) = some (v.sh B.length, shH B H')

variable {B : AHeap}

set_option maxHeartbeats 4000000 in
theorem aop_sh {E : AEnv} (hE : ShE B E) {lim : Nat} {H H' : AHeap} {ρ : Opd → AV} {o : COp} {v : AV} (hc : o.consts.all AV.noRef = true) (h : aop E lim H ρ o = some (v, H')) :
    aop E (lim + B.length) (shH B H) (fun x => (ρ x).sh B.length) o = some (v.sh B.length, shH B H') := by
  have opt : ∀ (n : Nat) (x : Option Opd), optInt (fun x => (ρ x).sh B.length) n x = optInt ρ n x := fun n x => by
    cases x with
    | none => rfl
    | some y => exact sh_int _
  have mp : ∀ l : List Opd, l.map (fun x => (ρ x).sh B.length) = (l.map ρ).map (AV.sh B.length) := fun l => by simp
  cases o with
  | call f args => simp only [aop] at h ⊢; rw [mp]; exact hE _ _ _ _ _ _ h
  | panic x => simp [aop] at h
  | callV f args =>
    simp only [aop] at h ⊢
    split at h
    · rename_i g caps heq
      simp only [heq, AV.sh, shs_map]
      rw [mp, ← List.map_append]
      exact hE _ _ _ _ _ _ h
    · simp at h
  | new cs =>
    simp only [aop, Option.some.injEq, Prod.mk.injEq] at h ⊢
    obtain ⟨rfl, rfl⟩ := h
    refine ⟨by simp [AV.sh, shH_len], ?_⟩
    rw [← shH_add]
    simp only [AObj.sh]
    rw [noRef_all (by simpa [COp.consts] using hc)]
  | box x =>
    simp only [aop] at h ⊢
    rw [sh_cells, sh_all]
    split at h
    · rename_i hcell
      rw [if_pos hcell]
      simp only [Option.some.injEq, Prod.mk.injEq] at h ⊢
      obtain ⟨rfl, rfl⟩ := h
      exact ⟨by simp [AV.sh, shH_len], by rw [← shH_add]; rfl⟩
    · simp at h
  | build z ps =>
    simp only [aop, Option.map_eq_some_iff, Prod.mk.injEq] at h ⊢
    obtain ⟨cs, h1, rfl, rfl⟩ := h
    have hz : z.map (AV.sh B.length) = z := noRef_all (by simpa [COp.consts] using hc)
    refine ⟨cs.map (AV.sh B.length), ?_, sh_mkAgg cs, rfl⟩
    have := sh_fill (b := B.length) (ps.map fun p => (p.1, p.2.1, ρ p.2.2)) z
    rw [hz, h1, List.map_map] at this
    exact this
  | buildSl sz z len ps =>
    have hz : z.cells.map (AV.sh B.length) = z.cells := noRef_all (by simpa [COp.consts] using hc)
    have hz2 : ((List.replicate len z.cells).flatten).map (AV.sh B.length) = (List.replicate len z.cells).flatten := by
      rw [List.map_flatten, List.map_replicate, hz]
    have hf := sh_fill (b := B.length) (ps.map fun p => (p.1 * sz, sz, ρ p.2)) (List.replicate len z.cells).flatten
    rw [hz2, List.map_map] at hf
    simp only [aop] at h ⊢
    split at h
    · rename_i cs h1
      rw [h1] at hf
      rw [show (ps.map fun p => (p.1 * sz, sz, (ρ p.2).sh B.length)) = ps.map ((fun p => (p.1, p.2.1, AV.sh B.length p.2.2)) ∘ fun p => (p.1 * sz, sz, ρ p.2)) from rfl, hf]
      simp only [Option.map_some, sh_chunks]
      split at h
      · simp only [Option.some.injEq, Prod.mk.injEq] at h ⊢
        obtain ⟨rfl, rfl⟩ := h
        exact ⟨rfl, rfl⟩
      · simp only [Option.some.injEq, Prod.mk.injEq] at h ⊢
        obtain ⟨rfl, rfl⟩ := h
        exact ⟨by simp [AV.sh, shH_len], by rw [← shH_add]; rfl⟩
    · simp at h
  | buildLit sz z len ps =>
    have hz : z.cells.map (AV.sh B.length) = z.cells := noRef_all (by simpa [COp.consts] using hc)
    have hz2 : ((List.replicate len z.cells).flatten).map (AV.sh B.length) = (List.replicate len z.cells).flatten := by
      rw [List.map_flatten, List.map_replicate, hz]
    have hf := sh_fill (b := B.length) (ps.map fun p => (p.1 * sz, sz, ρ p.2)) (List.replicate len z.cells).flatten
    rw [hz2, List.map_map] at hf
    simp only [aop] at h ⊢
    split at h
    · rename_i cs h1
      rw [h1] at hf
      rw [show (ps.map fun p => (p.1 * sz, sz, (ρ p.2).sh B.length)) = ps.map ((fun p => (p.1, p.2.1, AV.sh B.length p.2.2)) ∘ fun p => (p.1 * sz, sz, ρ p.2)) from rfl, hf]
      simp only [Option.map_some, sh_chunks]
      simp only [Option.map_eq_some_iff, Prod.mk.injEq] at h ⊢
      obtain ⟨xs, h2, rfl, rfl⟩ := h
      exact ⟨xs, h2, rfl, rfl⟩
    · simp at h
  | load agg sz a =>
    simp only [aop] at h ⊢
    split at h
    · rename_i r off heq
      split at h
      · rename_i cs hg
        simp only [heq, AV.sh, shH_get hg, AObj.sh, sh_readCells]
        simp only [Option.map_eq_some_iff, Prod.mk.injEq] at h ⊢
        obtain ⟨y, h1, rfl, rfl⟩ := h
        exact ⟨_, ⟨y, h1, rfl⟩, rfl, rfl⟩
      · simp at h
    · rename_i cs heq
      simp only [heq, AV.sh]
      simp only [Option.map_eq_some_iff, Prod.mk.injEq] at h ⊢
      obtain ⟨y, h1, rfl, rfl⟩ := h
      exact ⟨y, h1, rfl, rfl⟩
    · simp at h
  | loadTake a =>
    simp only [aop] at h ⊢
    split at h
    · rename_i r off heq
      split at h
      · rename_i cs hg
        split at h
        · rename_i w hw
          split at h
          · rename_i hl
            simp only [Option.some.injEq, Prod.mk.injEq] at h
            obtain ⟨rfl, rfl⟩ := h
            simp only [heq, AV.sh, shH_get hg, AObj.sh, List.getElem?_map, hw, Option.map_some]
            rw [if_pos (by omega), ← shH_set]
            simp only [AObj.sh, List.map_set, sh_unf]
          · simp at h
        · simp at h
      · simp at h
    · rename_i cs heq
      simp only [heq, AV.sh]
      simp only [Option.map_eq_some_iff, Prod.mk.injEq] at h ⊢
      obtain ⟨y, h1, rfl, rfl⟩ := h
      exact ⟨y, h1, rfl, rfl⟩
    · simp at h
  | store sz a x =>
    simp only [aop] at h ⊢
    split at h
    · rename_i r off heq
      split at h
      · rename_i cs hg
        split at h
        · rename_i hl
          simp only [Option.some.injEq, Prod.mk.injEq] at h
          obtain ⟨rfl, rfl⟩ := h
          simp only [heq, AV.sh, shH_get hg, AObj.sh, sh_cells, List.length_map, sh_all]
          rw [if_pos ⟨by omega, hl.2⟩, ← shH_set]
          simp only [AObj.sh, sh_splice]
          rfl
        · simp at h
      · simp at h
    · simp at h
  | bin op k x y =>
    simp only [aop, sh_binV, Option.map_map, Option.map_eq_some_iff, Prod.mk.injEq, Function.comp] at h ⊢
    obtain ⟨w, h1, rfl, rfl⟩ := h
    exact ⟨w, h1, rfl, rfl⟩
  | un op x =>
    simp only [aop, sh_unV, Option.map_map, Option.map_eq_some_iff, Prod.mk.injEq, Function.comp] at h ⊢
    obtain ⟨w, h1, rfl, rfl⟩ := h
    exact ⟨w, h1, rfl, rfl⟩
  | move x => simp only [aop, Option.some.injEq, Prod.mk.injEq] at h ⊢; obtain ⟨rfl, rfl⟩ := h; exact ⟨rfl, rfl⟩
  | mkIface ty x => simp only [aop, Option.some.injEq, Prod.mk.injEq] at h ⊢; obtain ⟨rfl, rfl⟩ := h; exact ⟨by simp [AV.sh], rfl⟩
  | mkFunc fn cs => simp only [aop, Option.some.injEq, Prod.mk.injEq] at h ⊢; obtain ⟨rfl, rfl⟩ := h; exact ⟨by rw [mp]; simp [AV.sh, shs_map], rfl⟩
  | mkMap kk =>
    simp only [aop, Option.some.injEq, Prod.mk.injEq] at h ⊢
    obtain ⟨rfl, rfl⟩ := h
    exact ⟨by simp [AV.sh, shH_len], by rw [← shH_add]; rfl⟩
  | pick c x y =>
    simp only [aop] at h ⊢
    split at h
    · rename_i t heq
      simp only [heq, AV.sh, Option.some.injEq, Prod.mk.injEq] at h ⊢
      obtain ⟨rfl, rfl⟩ := h
      cases t <;> exact ⟨rfl, rfl⟩
    · simp at h
  | nilSl neg x =>
    have ow : ((ρ x).sh B.length).owned = (ρ x).owned := by cases ρ x <;> rfl
    simp only [aop, sh_elems, ow] at h ⊢
    split at h
    · rename_i ho
      rw [if_pos ho]
      simp only [Option.some.injEq, Prod.mk.injEq] at h ⊢; obtain ⟨rfl, rfl⟩ := h; exact ⟨rfl, rfl⟩
    rename_i ho
    rw [if_neg ho]
    split at h
    · simp only [Option.some.injEq, Prod.mk.injEq] at h ⊢; obtain ⟨rfl, rfl⟩ := h; exact ⟨rfl, rfl⟩
    · simp only [Option.some.injEq, Prod.mk.injEq] at h ⊢; obtain ⟨rfl, rfl⟩ := h; exact ⟨rfl, rfl⟩
    · simp at h
  | toStr x =>
    simp only [aop] at h ⊢
    split at h
    · rename_i heq
      simp only [heq, AV.sh]
      simp only [Option.map_eq_some_iff, Prod.mk.injEq] at h ⊢
      obtain ⟨s, h1, rfl, rfl⟩ := h
      exact ⟨s, h1, rfl, rfl⟩
    · rename_i heq
      simp only [heq, AV.sh]
      simp only [Option.map_eq_some_iff, Prod.mk.injEq] at h ⊢
      obtain ⟨s, h1, rfl, rfl⟩ := h
      exact ⟨s, h1, rfl, rfl⟩
    · rename_i r off len _ sz heq
      split at h
      · rename_i hsz
        split at h
        · rename_i cs hg
          split at h
          · rename_i hl
            simp only [heq, AV.sh, hsz, if_true, shH_get hg, AObj.sh, List.length_map, if_pos hl, ← List.map_drop, ← List.map_take, sh_bytes]
            simp only [Option.map_eq_some_iff, Prod.mk.injEq] at h ⊢
            obtain ⟨s, h1, rfl, rfl⟩ := h
            exact ⟨s, h1, rfl, rfl⟩
          · simp at h
        · simp at h
      · simp at h
    · simp at h
  | mkSl sz bytes z l c =>
    simp only [aop] at h ⊢
    split at h
    · rename_i l' c' hl hc'
      split at h
      · rename_i hb
        simp only [hl, hc', AV.sh, if_pos hb, Option.some.injEq, Prod.mk.injEq] at h ⊢
        obtain ⟨rfl, rfl⟩ := h
        refine ⟨by simp [AV.sh, shH_len], ?_⟩
        rw [← shH_add]
        simp only [AObj.sh]
        rw [List.map_flatten, List.map_replicate, noRef_all (by simpa [COp.consts] using hc)]
      · simp at h
    · simp at h
  | slStr x lo hi =>
    simp only [aop, opt] at h ⊢
    split at h
    · rename_i s heq
      simp only [heq, AV.sh]
      split at h
      · rename_i l u hl hu
        try simp only [hl, hu]
        split at h
        · rename_i hb
          rw [if_pos hb]
          simp only [Option.some.injEq, Prod.mk.injEq] at h ⊢
          obtain ⟨rfl, rfl⟩ := h
          exact ⟨rfl, rfl⟩
        · simp at h
      · simp at h
    · simp at h
  | sl z x lo hi mx =>
    simp only [aop, opt, sh_int] at h ⊢
    revert h
    cases ρ x with
    | oslice r off len cap sz =>
      simp only [AV.sh]
      intro h
      split at h
      · rename_i l u m hl hu hm
        split at h
        · rename_i hb
          rw [if_pos hb]
          split at h
          · rename_i hlu
            rw [if_pos hlu]
            injection h with h; injection h with h1 h2
            subst h1 h2
            split <;> rfl
          · rename_i hlu
            rw [if_neg hlu]
            simp only [Option.some.injEq, Prod.mk.injEq] at h ⊢
            obtain ⟨rfl, rfl⟩ := h
            exact ⟨rfl, rfl⟩
        · simp at h
      · simp at h
    | d y => cases y with
      | slice xs =>
        intro h
        simp only [AV.sh, AV.elems] at h ⊢
        split at h
        · rename_i l u hl hu
          split at h
          · rename_i hb
            rw [if_pos hb]
            cases mx with
            | none =>
              simp only [Option.some.injEq, Prod.mk.injEq] at h ⊢
              obtain ⟨rfl, rfl⟩ := h
              exact ⟨rfl, rfl⟩
            | some m =>
              simp only at h ⊢
              split at h
              · rename_i hm
                rw [if_pos hm]
                simp only [Option.some.injEq, Prod.mk.injEq] at h ⊢
                obtain ⟨rfl, rfl⟩ := h
                exact ⟨rfl, rfl⟩
              · simp at h
          · simp at h
        · simp at h
      | _ => intro h; simp [AV.elems] at h
    | fslice xs =>
        intro h
        simp only [AV.sh, AV.elems] at h ⊢
        split at h
        · rename_i l u hl hu
          split at h
          · rename_i hb
            rw [if_pos hb]
            cases mx with
            | none =>
              simp only [Option.some.injEq, Prod.mk.injEq] at h ⊢
              obtain ⟨rfl, rfl⟩ := h
              exact ⟨rfl, rfl⟩
            | some m =>
              simp only at h ⊢
              split at h
              · rename_i hm
                rw [if_pos hm]
                simp only [Option.some.injEq, Prod.mk.injEq] at h ⊢
                obtain ⟨rfl, rfl⟩ := h
                exact ⟨rfl, rfl⟩
              · simp at h
          · simp at h
        · simp at h
    | lit xs =>
        intro h
        simp only [AV.sh, AV.elems] at h ⊢
        split at h
        · rename_i l u hl hu
          split at h
          · rename_i hb
            rw [if_pos hb]
            cases mx with
            | none =>
              simp only [Option.some.injEq, Prod.mk.injEq] at h ⊢
              obtain ⟨rfl, rfl⟩ := h
              exact ⟨rfl, rfl⟩
            | some m =>
              simp only at h ⊢
              split at h
              · rename_i hm
                rw [if_pos hm]
                simp only [Option.some.injEq, Prod.mk.injEq] at h ⊢
                obtain ⟨rfl, rfl⟩ := h
                exact ⟨rfl, rfl⟩
              · simp at h
          · simp at h
        · simp at h
    | _ => intro h; simp [AV.elems] at h
  | slArr n sz x lo hi =>
    simp only [aop, opt] at h ⊢
    split at h
    · rename_i r off heq
      simp only [heq, AV.sh]
      split at h
      · rename_i l u hl hu
        try simp only [hl, hu]
        split at h
        · rename_i hb
          rw [if_pos (by rw [sh_arrLen]; exact hb)]
          simp only [Option.some.injEq, Prod.mk.injEq] at h ⊢
          obtain ⟨rfl, rfl⟩ := h
          exact ⟨rfl, rfl⟩
        · simp at h
      · simp at h
    · simp at h
  | fieldAddr off x =>
    simp only [aop] at h ⊢
    split at h
    · rename_i heq
      simp only [heq, AV.sh, Option.some.injEq, Prod.mk.injEq] at h ⊢
      obtain ⟨rfl, rfl⟩ := h
      exact ⟨rfl, rfl⟩
    · rename_i heq
      simp only [heq, AV.sh, Option.some.injEq, Prod.mk.injEq] at h ⊢
      obtain ⟨rfl, rfl⟩ := h
      exact ⟨rfl, rfl⟩
    · simp at h
  | nilCheck x =>
    simp only [aop] at h ⊢
    split at h
    · rename_i heq
      simp only [heq, AV.sh, Option.some.injEq, Prod.mk.injEq] at h ⊢
      obtain ⟨rfl, rfl⟩ := h
      exact ⟨rfl, rfl⟩
    · rename_i heq
      simp only [heq, AV.sh, Option.some.injEq, Prod.mk.injEq] at h ⊢
      obtain ⟨rfl, rfl⟩ := h
      exact ⟨rfl, rfl⟩
    · rename_i heq
      simp only [heq, AV.sh, Option.some.injEq, Prod.mk.injEq] at h ⊢
      obtain ⟨rfl, rfl⟩ := h
      exact ⟨rfl, rfl⟩
    · rename_i heq
      simp only [heq, AV.sh, Option.some.injEq, Prod.mk.injEq] at h ⊢
      obtain ⟨rfl, rfl⟩ := h
      exact ⟨rfl, rfl⟩
    · simp at h
  | field agg off sz x =>
    simp only [aop] at h ⊢
    split at h
    · rename_i cs heq
      simp only [heq, AV.sh, shs_map, sh_readCells]
      simp only [Option.map_eq_some_iff, Prod.mk.injEq] at h ⊢
      obtain ⟨y, h1, rfl, rfl⟩ := h
      exact ⟨_, ⟨y, h1, rfl⟩, rfl, rfl⟩
    · rename_i cs heq
      simp only [heq, AV.sh]
      simp only [Option.map_eq_some_iff, Prod.mk.injEq] at h ⊢
      obtain ⟨y, h1, rfl, rfl⟩ := h
      exact ⟨y, h1, rfl, rfl⟩
    · simp at h
  | idxSl sz x i =>
    simp only [aop, sh_int] at h ⊢
    split at h
    · rename_i n hn
      have rows : ∀ xs : List D, (if 0 ≤ n then match xs[n.toNat]? with
            | some e => if e.cells.length = sz then some (AV.pref e.cells, H) else none
            | none => none
          else none) = some (v, H') → (if 0 ≤ n then match xs[n.toNat]? with
            | some e => if e.cells.length = sz then some (AV.pref e.cells, shH B H) else none
            | none => none
          else none) = some (v.sh B.length, shH B H') := by
        intro xs h
        split at h
        · rename_i h0
          rw [if_pos h0]
          split at h
          · rename_i e he
            split at h
            · rename_i hs
              rw [if_pos hs]
              simp only [Option.some.injEq, Prod.mk.injEq] at h ⊢
              obtain ⟨rfl, rfl⟩ := h
              exact ⟨rfl, rfl⟩
            · simp at h
          · simp at h
        · simp at h
      revert h
      cases ρ x with
      | oslice r off len cap z =>
        intro h
        simp only [AV.sh] at h ⊢
        split at h
        · rename_i hb
          rw [if_pos hb]
          simp only [Option.some.injEq, Prod.mk.injEq] at h ⊢
          obtain ⟨rfl, rfl⟩ := h
          exact ⟨rfl, rfl⟩
        · simp at h
      | d y => cases y with
        | slice xs => exact rows xs
        | _ => intro h; simp [AV.elems] at h
      | fslice xs => exact rows xs
      | lit xs => exact rows xs
      | _ => intro h; simp [AV.elems] at h
    · simp at h
  | idxArr n sz x i =>
    simp only [aop, sh_int] at h ⊢
    split at h
    · rename_i j r off hj heq
      split at h
      · rename_i hb
        simp only [hj, heq, AV.sh, if_pos hb, Option.some.injEq, Prod.mk.injEq] at h ⊢
        obtain ⟨rfl, rfl⟩ := h
        exact ⟨rfl, rfl⟩
      · simp at h
    · rename_i j cs hj heq
      split at h
      · rename_i hb
        simp only [hj, heq, AV.sh, if_pos hb, Option.some.injEq, Prod.mk.injEq] at h ⊢
        obtain ⟨rfl, rfl⟩ := h
        exact ⟨rfl, rfl⟩
      · simp at h
    · simp at h
  | idxStr x i =>
    simp only [aop, sh_int] at h ⊢
    split at h
    · rename_i j s hj heq
      split at h
      · rename_i hb
        simp only [hj, heq, AV.sh, if_pos hb]
        simp only [Option.map_eq_some_iff, Prod.mk.injEq] at h ⊢
        obtain ⟨y, h1, rfl, rfl⟩ := h
        exact ⟨y, h1, rfl, rfl⟩
      · simp at h
    · simp at h
  | idxAgg n agg sz x i =>
    simp only [aop, sh_int] at h ⊢
    split at h
    · rename_i j cs hj heq
      split at h
      · rename_i hb
        simp only [hj, heq, AV.sh, shs_map, if_pos hb, sh_readCells]
        simp only [Option.map_eq_some_iff, Prod.mk.injEq] at h ⊢
        obtain ⟨y, h1, rfl, rfl⟩ := h
        exact ⟨_, ⟨y, h1, rfl⟩, rfl, rfl⟩
      · simp at h
    · rename_i j cs hj heq
      split at h
      · rename_i hb
        simp only [hj, heq, AV.sh, if_pos hb]
        simp only [Option.map_eq_some_iff, Prod.mk.injEq] at h ⊢
        obtain ⟨y, h1, rfl, rfl⟩ := h
        exact ⟨y, h1, rfl, rfl⟩
      · simp at h
    · simp at h
  | lookup kk z x i ok =>
    have hz : z.sh B.length = z := noRef_sh (by simpa [COp.consts] using hc)
    have main : ∀ (es : List (D × AV)) (k : D), (if isKey kk k then match findE k es with
        | some w => some (if ok then AV.tuple [w, boolD true] else w, H)
        | none => some (if ok then .tuple [z, boolD false] else z, H)
      else none) = some (v, H') → (if isKey kk k then match findE k (es.map fun e => (e.1, AV.sh B.length e.2)) with
        | some w => some (if ok then AV.tuple [w, boolD true] else w, shH B H)
        | none => some (if ok then .tuple [z, boolD false] else z, shH B H)
      else none) = some (v.sh B.length, shH B H') := by
      intro es k h
      split at h
      · rename_i hk
        rw [if_pos hk, sh_findE]
        split at h
        · rename_i w hw
          simp only [hw, Option.map_some, Option.some.injEq, Prod.mk.injEq] at h ⊢
          obtain ⟨rfl, rfl⟩ := h
          cases ok <;> exact ⟨rfl, rfl⟩
        · rename_i hw
          simp only [hw, Option.map_none, Option.some.injEq, Prod.mk.injEq] at h ⊢
          obtain ⟨rfl, rfl⟩ := h
          cases ok
          · exact ⟨by simp [hz], rfl⟩
          · exact ⟨by simp [AV.sh, AV.shs, hz], rfl⟩
      · simp at h
    simp only [aop] at h ⊢
    revert h
    cases hx : ρ x with
    | mapr r =>
      simp only [AV.sh]
      intro h
      cases hg : H[r]? with
      | none => simp [hg] at h
      | some o =>
        cases o with
        | map k2 es =>
          simp only [shH_get hg, AObj.sh]
          simp only [hg] at h
          by_cases hk : k2 = kk
          · subst hk
            simp only [if_true] at h ⊢
            cases hi : ρ i with
            | d k => simp only [hi, AV.sh] at h ⊢; exact main es k h
            | _ => simp [hi] at h
          · simp [hk] at h
        | _ => simp [hg] at h
    | nilmap =>
      simp only [AV.sh]
      intro h
      cases hi : ρ i with
      | d k => simp only [hi, AV.sh] at h ⊢; exact main [] k h
      | _ => simp [hi] at h
    | _ => intro h; simp at h
  | mapSet kk m k w =>
    simp only [aop] at h ⊢
    split at h
    · rename_i r key hm hk
      split at h
      · rename_i k2 es hg
        split at h
        · rename_i hb
          simp only [hm, hk, AV.sh, shH_get hg, AObj.sh]
          rw [if_pos ⟨by omega, hb.2⟩]
          simp only [Option.some.injEq, Prod.mk.injEq] at h ⊢
          obtain ⟨rfl, rfl⟩ := h
          refine ⟨rfl, ?_⟩
          rw [← shH_set]
          simp only [AObj.sh, ← sh_unf, sh_setE]
        · simp at h
      · simp at h
    · simp at h
  | delete kk m k =>
    simp only [aop] at h ⊢
    split at h
    · rename_i r key hm hk
      split at h
      · rename_i k2 es hg
        split at h
        · rename_i hb
          simp only [hm, hk, AV.sh, shH_get hg, AObj.sh]
          rw [if_pos ⟨by omega, hb.2⟩]
          simp only [Option.some.injEq, Prod.mk.injEq] at h ⊢
          obtain ⟨rfl, rfl⟩ := h
          refine ⟨rfl, ?_⟩
          rw [← shH_set]
          simp only [AObj.sh, sh_delE]
        · simp at h
      · simp at h
    · rename_i key hm hk
      simp only [hm, hk, AV.sh]
      split at h
      · rename_i hb
        rw [if_pos hb]
        simp only [Option.some.injEq, Prod.mk.injEq] at h ⊢
        obtain ⟨rfl, rfl⟩ := h
        exact ⟨rfl, rfl⟩
      · simp at h
    · simp at h
  | rngStr x =>
    simp only [aop] at h ⊢
    split at h
    · rename_i s heq
      simp only [heq, AV.sh, Option.some.injEq, Prod.mk.injEq] at h ⊢
      obtain ⟨rfl, rfl⟩ := h
      exact ⟨by simp [AV.sh, shH_len], by rw [← shH_add]; rfl⟩
    · simp at h
  | nextStr x =>
    simp only [aop] at h ⊢
    split at h
    · rename_i r heq
      split at h
      · rename_i s pos hg
        simp only [heq, AV.sh, shH_get hg, AObj.sh]
        split at h
        · rename_i hl
          rw [if_pos (by omega)]
          split at h
          · rename_i hp
            rw [if_pos hp]
            simp only [Option.some.injEq, Prod.mk.injEq] at h ⊢
            obtain ⟨rfl, rfl⟩ := h
            exact ⟨rfl, by rw [← shH_set]; rfl⟩
          · rename_i hp
            rw [if_neg hp]
            simp only [Option.some.injEq, Prod.mk.injEq] at h ⊢
            obtain ⟨rfl, rfl⟩ := h
            exact ⟨rfl, rfl⟩
        · simp at h
      · simp at h
    · simp at h
  | extract x i =>
    simp only [aop] at h ⊢
    split at h
    · rename_i vs heq
      simp only [heq, AV.sh, shs_map, List.getElem?_map]
      simp only [Option.map_eq_some_iff, Prod.mk.injEq] at h ⊢
      obtain ⟨y, h1, rfl, rfl⟩ := h
      exact ⟨_, ⟨y, h1, rfl⟩, rfl, rfl⟩
    · simp at h
  | len k x =>
    simp only [aop] at h ⊢
    revert h
    cases k with
    | str =>
      cases ρ x with
      | d y => cases y with
        | str s => intro h; simp only [AV.sh, Option.some.injEq, Prod.mk.injEq] at h ⊢; obtain ⟨rfl, rfl⟩ := h; exact ⟨rfl, rfl⟩
        | _ => intro h; simp at h
      | _ => intro h; simp at h
    | sl =>
      cases ρ x with
      | d y => cases y with
        | slice xs => intro h; simp only [AV.sh, AV.elems, Option.map_some, Option.some.injEq, Prod.mk.injEq] at h ⊢; obtain ⟨rfl, rfl⟩ := h; exact ⟨rfl, rfl⟩
        | _ => intro h; simp [AV.elems] at h
      | fslice xs => intro h; simp only [AV.sh, AV.elems, Option.map_some, Option.some.injEq, Prod.mk.injEq] at h ⊢; obtain ⟨rfl, rfl⟩ := h; exact ⟨rfl, rfl⟩
      | lit xs => intro h; simp only [AV.sh, AV.elems, Option.map_some, Option.some.injEq, Prod.mk.injEq] at h ⊢; obtain ⟨rfl, rfl⟩ := h; exact ⟨rfl, rfl⟩
      | oslice r off n cap sz => intro h; simp only [AV.sh, Option.some.injEq, Prod.mk.injEq] at h ⊢; obtain ⟨rfl, rfl⟩ := h; exact ⟨rfl, rfl⟩
      | _ => intro h; simp [AV.elems] at h
    | map =>
      cases ρ x with
      | nilmap => intro h; simp only [AV.sh, Option.some.injEq, Prod.mk.injEq] at h ⊢; obtain ⟨rfl, rfl⟩ := h; exact ⟨rfl, rfl⟩
      | mapr r =>
        intro h
        simp only [AV.sh] at h ⊢
        split at h
        · rename_i k2 es hg
          simp only [shH_get hg, AObj.sh, List.length_map, Option.some.injEq, Prod.mk.injEq] at h ⊢
          obtain ⟨rfl, rfl⟩ := h
          exact ⟨rfl, rfl⟩
        · simp at h
      | _ => intro h; simp at h
  | append sz bytes str x y =>
    simp only [aop] at h ⊢
    split at h
    · rename_i xs heq
      split at h
      · rename_i ys hy
        simp only [heq, AV.sh, sh_srcOf _ _ hy]
        split at h
        · rename_i hb
          rw [if_pos hb]
          simp only [Option.some.injEq, Prod.mk.injEq] at h ⊢
          obtain ⟨rfl, rfl⟩ := h
          exact ⟨rfl, rfl⟩
        · simp at h
      · simp at h
    · simp at h
  | appendO sz bytes str x y =>
    simp only [aop] at h ⊢
    split at h
    · rename_i k ys hy
      rw [sh_srcC _ _ hy]
      simp only
      split at h
      · rename_i hk
        rw [if_pos hk]
        split at h
        · rename_i hg
          rw [if_pos (by rw [sh_growable]; exact hg)]
          simp only [Option.some.injEq, Prod.mk.injEq] at h ⊢
          obtain ⟨rfl, rfl⟩ := h
          exact ⟨rfl, rfl⟩
        · simp at h
      · rename_i hk
        rw [if_neg hk]
        split at h
        · rename_i heq
          simp only [heq, AV.sh]
          split at h
          · rename_i hb
            rw [if_pos hb]
            simp only [Option.some.injEq, Prod.mk.injEq] at h ⊢
            obtain ⟨rfl, rfl⟩ := h
            exact ⟨by simp [AV.sh, shH_len], by rw [← shH_add]; rfl⟩
          · simp at h
        · rename_i r len cap z heq
          split at h
          · rename_i cs hg
            simp only [heq, AV.sh, shH_get hg, AObj.sh, List.length_map]
            split at h
            · rename_i hb
              rw [if_pos ⟨by omega, hb.2⟩]
              simp only [Option.some.injEq, Prod.mk.injEq] at h ⊢
              obtain ⟨rfl, rfl⟩ := h
              refine ⟨by simp [AV.sh, shH_len], ?_⟩
              rw [← shH_add, ← shH_set]
              simp only [AObj.sh, List.map_append, ← List.map_take, List.map_map]
              congr 4
              apply List.map_congr_left
              intro a _
              exact (sh_unf a).symm
            · simp at h
          · simp at h
        · simp at h
    · simp at h
  | copy sz str x y =>
    simp only [aop] at h ⊢
    split at h
    · rename_i r off len _ z heq
      split at h
      · rename_i ys cs hy hg
        split at h
        · rename_i hb
          simp only [heq, AV.sh, sh_srcOf _ _ hy, shH_get hg, AObj.sh, List.length_map]
          rw [if_pos ⟨by omega, hb.2⟩]
          simp only [Option.some.injEq, Prod.mk.injEq] at h ⊢
          obtain ⟨rfl, rfl⟩ := h
          refine ⟨rfl, ?_⟩
          rw [← shH_set]
          simp only [AObj.sh, ← sh_splice, List.map_map]
          rfl
        · simp at h
      · simp at h
    · simp at h
  | minI xs =>
    simp only [aop, mp, sh_foldInt, Option.map_eq_some_iff, Prod.mk.injEq] at h ⊢
    obtain ⟨d, h1, rfl, rfl⟩ := h
    exact ⟨d, h1, rfl, rfl⟩
  | maxI xs =>
    simp only [aop, mp, sh_foldInt, Option.map_eq_some_iff, Prod.mk.injEq] at h ⊢
    obtain ⟨d, h1, rfl, rfl⟩ := h
    exact ⟨d, h1, rfl, rfl⟩
  | _ =>
    simp only [aop] at h ⊢
    split at h
    · rename_i heq
      simp only [heq, AV.sh, Option.some.injEq, Prod.mk.injEq] at h ⊢
      obtain ⟨rfl, rfl⟩ := h
      exact ⟨rfl, rfl⟩
    · simp at h

end

end Go.Abs

/- Deeper runs answer the same; the same run over a memory that lies ahead: code and functions. -/
namespace Go.Abs

variable [Tab]

/-! Deeper. -/
section
variable {E' E : AEnv} {lim : Nat}

theorem stepOp_le (hE : Le E' E) {o : COper} {st st' : St} (h : stepOp E' lim o st = some st') : stepOp E lim o st = some st' := by
  simp only [stepOp] at h ⊢
  split at h
  · split at h
    · rename_i he
      rw [aop_le hE he]; exact h
    · simp at h
  · exact h
  · simp at h

theorem runOps_le (hE : Le E' E) : ∀ (os : List COper) {st st' : St}, runOps E' lim os st = some st' → runOps E lim os st = some st'
  | [], st, st', h => h
  | o :: os, st, st', h => by
    simp only [runOps] at h ⊢
    split at h
    · rename_i h1
      rw [stepOp_le hE h1]
      exact runOps_le hE os h
    · simp at h

theorem stepRec_le (hE : Le E' E) {o : COper} {st : St} {r : Rec × St} (h : stepRec E' lim o st = some r) : stepRec E lim o st = some r := by
  simp only [stepRec] at h ⊢
  split at h
  · split at h
    · rename_i he
      rw [aop_le hE he]; exact h
    · simp at h
  · exact h
  · simp at h

theorem traceOps_le (hE : Le E' E) : ∀ (os : List COper) {st : St} {r : List Rec × St}, traceOps E' lim os st = some r → traceOps E lim os st = some r
  | [], st, r, h => h
  | o :: os, st, r, h => by
    simp only [traceOps] at h ⊢
    split at h
    · rename_i h1
      rw [stepRec_le hE h1]
      simp only
      split at h
      · rename_i h2
        rw [traceOps_le hE os h2]; exact h
      · simp at h
    · simp at h

theorem evalR_le (hE : Le E' E) {ops : List COper} {chk : Option Chk} {fg : List Nat} {st st' : St} (h : evalR E' lim ops chk fg st = some st') : evalR E lim ops chk fg st = some st' := by
  cases chk with
  | none =>
    simp only [evalR] at h ⊢
    split at h
    · rename_i h1
      rw [runOps_le hE _ h1]; exact h
    · simp at h
  | some c =>
    simp only [evalR] at h ⊢
    split at h
    · rename_i recs s1 h1
      rw [traceOps_le hE _ h1]
      simp only
      split at h
      · rename_i hx
        rw [if_pos (drawOK_le (fun i H H' hr => ?_) rfl hx)]
        · exact h
        · unfold runAt at hr ⊢
          split at hr
          · rename_i o T v he
            split at hr
            · rename_i ha
              rw [aop_le hE ha]; exact hr
            · simp at hr
          · exact hr
          · simp at hr
      · simp at h
    · simp at h

theorem loopN_le {σ ρ : Type} {f g : σ → Option (σ ⊕ ρ)} (hfg : ∀ s r, f s = some r → g s = some r) : ∀ (n m : Nat) (s : σ) (r : ρ), n ≤ m → loopN f n s = some r → loopN g m s = some r
  | 0, m, s, r, _, h => by simp [loopN] at h
  | n + 1, 0, s, r, hn, h => by omega
  | n + 1, m + 1, s, r, hn, h => by
    simp only [loopN] at h ⊢
    cases hf : f s with
    | none => rw [hf] at h; simp at h
    | some y =>
      rw [hfg s y hf]
      rw [hf] at h
      cases y with
      | inl s' => exact loopN_le hfg n m s' r (by omega) h
      | inr r' => exact h

theorem evalC_le (hE : Le E' E) {n m : Nat} (hn : n ≤ m) : ∀ (c : CCode) {st : St} {r : AExit × St}, evalC E' lim (fun b s => loopN b n s) c st = some r → evalC E lim (fun b s => loopN b m s) c st = some r
  | .skip, st, r, h => h
  | .exit _, st, r, h => h
  | .ret, st, r, h => h
  | .region ops chk fg, st, r, h => by
    simp only [evalC] at h ⊢
    split at h
    · rename_i h1
      rw [evalR_le hE h1]; exact h
    · simp at h
  | .seq a b, st, r, h => by
    simp only [evalC] at h ⊢
    split at h
    · rename_i h1
      rw [evalC_le hE hn a h1]
      exact evalC_le hE hn b h
    · rename_i hne
      rw [evalC_le hE hn a h]
      split
      · rename_i heq
        simp only [Option.some.injEq] at heq
        subst heq
        exact absurd h (hne _)
      · rfl
  | .cond c a b, st, r, h => by
    simp only [evalC] at h ⊢
    split at h
    · rename_i t _
      cases t with
      | true => simpa using evalC_le hE hn a (by simpa using h)
      | false => simpa using evalC_le hE hn b (by simpa using h)
    · split at h
      · rename_i h1 h2
        rw [evalC_le hE hn a h1, evalC_le hE hn b h2]; exact h
      · simp at h
    · simp at h
  | .block id a, st, r, h => by
    simp only [evalC] at h ⊢
    split at h
    · rename_i h1
      rw [evalC_le hE hn a h1]; exact h
    · rename_i hne
      rw [evalC_le hE hn a h]
      split
      · rename_i heq
        simp only [Option.some.injEq] at heq
        subst heq
        exact absurd h (hne _ _)
      · rfl
  | .loop a, st, r, h => by
    simp only [evalC] at h ⊢
    refine loopN_le (fun s y hy => ?_) n m st r hn h
    cases he : evalC E' lim (fun b s => loopN b n s) a s with
    | none => rw [he] at hy; simp at hy
    | some q => rw [evalC_le hE hn a he]; rw [he] at hy; exact hy

theorem evalF_le (hE : Le E' E) {n m : Nat} (hn : n ≤ m) {fn : CFn} {args : List AV} {H : AHeap} {r : AV × AHeap} (h : evalF E' (fun b s => loopN b n s) fn lim args H = some r) : evalF E (fun b s => loopN b m s) fn lim args H = some r := by
  simp only [evalF] at h ⊢
  split at h
  · rename_i hl
    rw [if_pos hl]
    split at h
    · simp at h
    · rename_i st hne he
      rw [evalC_le hE hn _ he]
      split
      · rename_i heq
        simp only [Option.some.injEq, Prod.mk.injEq] at heq
        exact (hne _ heq.1).elim
      · rename_i heq
        simp only [Option.some.injEq, Prod.mk.injEq] at heq
        rw [← heq.2]; exact h
      · rename_i heq; simp at heq
    · simp at h
  · simp at h

theorem env_le (code : FuncId → Option CFn) (prim : FuncId → Option AFun) : ∀ k, Le (envN code prim k) (envN code prim (k + 1))
  | 0 => fun f lim a H r h => by simp [envN] at h
  | k + 1 => fun f lim a H r h => by
    rw [envN] at h ⊢
    cases hF : prim f with
    | some F => simp only [hF] at h ⊢; exact h
    | none =>
      simp only [hF] at h ⊢
      cases hc : code f with
      | none => simp only [hc] at h; simp at h
      | some c =>
        simp only [hc] at h ⊢
        exact evalF_le (env_le code prim k) (Nat.le_succ k) h

theorem env_mono (code : FuncId → Option CFn) (prim : FuncId → Option AFun) {k n : Nat} (hn : k ≤ n) : Le (envN code prim k) (envN code prim n) := by
  induction hn with
  | refl => exact fun f lim a H r h => h
  | step _ ih => exact fun f lim a H r h => env_le code prim _ f lim a H r (ih f lim a H r h)

end

/-! Over what lies ahead. -/
section
variable {b : Nat}

theorem beq_add (r s : Nat) : (r + b == s + b) = (r == s) := by
  rw [Bool.eq_iff_iff]; simp

mutual
theorem sh_beq : ∀ x y : AV, AV.beq (x.sh b) (y.sh b) = AV.beq x y
  | .undef, y => by cases y <;> rfl
  | .d _, y => by cases y <;> rfl
  | .fslice _, y => by cases y <;> rfl
  | .lit _, y => by cases y <;> rfl
  | .ptr _ _, y => by cases y <;> simp [AV.sh, AV.beq, beq_add]
  | .pref _, y => by cases y <;> rfl
  | .oslice _ _ _ _ _, y => by cases y <;> simp [AV.sh, AV.beq, beq_add]
  | .agg cs, y => by
    cases y with
    | agg ds => simp only [AV.sh, AV.beq]; exact sh_beqs cs ds
    | _ => rfl
  | .tuple cs, y => by
    cases y with
    | tuple ds => simp only [AV.sh, AV.beq]; exact sh_beqs cs ds
    | _ => rfl
  | .mapr _, y => by cases y <;> simp [AV.sh, AV.beq, beq_add]
  | .nilmap, y => by cases y <;> rfl
  | .func f cs, y => by
    cases y with
    | func g ds => simp only [AV.sh, AV.beq]; rw [sh_beqs cs ds]
    | _ => rfl
  | .nilfunc, y => by cases y <;> rfl
  | .iface t v, y => by
    cases y with
    | iface u w => simp only [AV.sh, AV.beq]; rw [sh_beq v w]
    | _ => rfl
  | .niliface, y => by cases y <;> rfl
  | .ubool, y => by cases y <;> rfl
theorem sh_beqs : ∀ xs ys : List AV, AV.beqs (AV.shs b xs) (AV.shs b ys) = AV.beqs xs ys
  | [], ys => by cases ys <;> rfl
  | x :: xs, ys => by
    cases ys with
    | nil => rfl
    | cons y ys => simp only [AV.shs, AV.beqs]; rw [sh_beq x y, sh_beqs xs ys]
end

theorem sh_joinT : ∀ xs ys : List AV, joinT (xs.map (AV.sh b)) (ys.map (AV.sh b)) = (joinT xs ys).map (AV.sh b)
  | [], ys => by cases ys <;> rfl
  | x :: xs, [] => rfl
  | x :: xs, y :: ys => by
    simp only [List.map_cons, joinT, sh_beq, sh_joinT xs ys]
    split <;> rfl

theorem sh_getD (T : List AV) (n : Nat) : (T.map (AV.sh b)).getD n .undef = (T.getD n .undef).sh b := by
  simp only [List.getD, List.getElem?_map]
  cases T[n]? <;> rfl

theorem sh_wanted (T : List AV) (g : Option (Nat × Bool)) : wanted (T.map (AV.sh b)) g = wanted T g := by
  cases g with
  | none => rfl
  | some g =>
    simp only [wanted, sh_getD]
    cases T.getD g.1 .undef with
    | tuple vs => cases vs <;> rfl
    | _ => rfl

theorem sh_put (T : List AV) (d : Option Nat) (v : AV) : put (T.map (AV.sh b)) d (v.sh b) = (put T d v).map (AV.sh b) := by
  cases d <;> simp [put, List.map_set]

theorem sh_unflag : ∀ (ns : List Nat) (T : List AV), unflag (T.map (AV.sh b)) ns = (unflag T ns).map (AV.sh b)
  | [], T => rfl
  | n :: ns, T => by simp only [unflag, sh_getD, ← sh_unf]; rw [← sh_unflag ns, List.map_set]

theorem sh_forget : ∀ (ns : List Nat) (T : List AV), forgetT (T.map (AV.sh b)) ns = (forgetT T ns).map (AV.sh b)
  | [], T => rfl
  | n :: ns, T => by simp only [forgetT]; rw [← sh_forget ns, List.map_set]; rfl

variable {B : AHeap} {E : AEnv} {lim : Nat}

theorem sh_evx (T : List AV) (cons : List Nat) (o : COp) (h : o.opds.all Opd.closed = true) : ∀ x ∈ o.opds, (fun x => (evx T cons x).sh B.length) x = evx (T.map (AV.sh B.length)) cons x := fun x hx => by
  rw [List.all_eq_true] at h
  exact (evx_sh (h x hx)).symm

/-- One operation's answer over what lies ahead. -/
theorem aop_ahead (hE : ShE B E) {T : List AV} {cons : List Nat} {H H' : AHeap} {o : COp} {v : AV} (hc : o.closed = true) (h : aop E lim H (evx T cons) o = some (v, H')) :
    aop E (lim + B.length) (shH B H) (evx (T.map (AV.sh B.length)) cons) o = some (v.sh B.length, shH B H') := by
  simp only [COp.closed, Bool.and_eq_true] at hc
  rw [← aop_congr (sh_evx T cons o hc.1)]
  exact aop_sh hE hc.2 h

def shS (B : AHeap) (st : St) : St := ⟨st.T.map (AV.sh B.length), shH B st.H⟩

theorem step_ahead (hE : ShE B E) {o : COper} {st st' : St} (hc : o.op.closed = true) (h : stepOp E lim o st = some st') : stepOp E (lim + B.length) o (shS B st) = some (shS B st') := by
  simp only [stepOp, shS, sh_wanted] at h ⊢
  split at h
  · rename_i hw
    split at h
    · rename_i v H he
      simp only [Option.some.injEq] at h; subst h
      simp only [aop_ahead hE hc he, sh_unflag, sh_put]
    · simp at h
  · rename_i hw
    simp only [Option.some.injEq] at h; subst h
    simp only [Option.some.injEq, St.mk.injEq, and_true]
    exact sh_put _ _ (.tuple [])
  · simp at h

def opsClosed (os : List COper) : Bool := os.all fun o => o.op.closed

theorem run_ahead (hE : ShE B E) : ∀ (os : List COper) {st st' : St}, opsClosed os = true → runOps E lim os st = some st' → runOps E (lim + B.length) os (shS B st) = some (shS B st')
  | [], st, st', _, h => by simp only [runOps, Option.some.injEq] at h ⊢; rw [h]
  | o :: os, st, st', hc, h => by
    simp only [opsClosed, List.all_cons, Bool.and_eq_true] at hc
    simp only [runOps] at h ⊢
    split at h
    · rename_i h1
      rw [step_ahead hE hc.1 h1]
      exact run_ahead hE os hc.2 h
    · simp at h

def shRec (B : AHeap) (r : Rec) : Rec := ⟨r.o, r.T.map (AV.sh B.length), r.v.map (AV.sh B.length)⟩

theorem rec_ahead (hE : ShE B E) {o : COper} {st : St} {r : Rec} {st' : St} (hc : o.op.closed = true) (h : stepRec E lim o st = some (r, st')) : stepRec E (lim + B.length) o (shS B st) = some (shRec B r, shS B st') ∧ r.o = o := by
  simp only [stepRec, shS, sh_wanted] at h ⊢
  split at h
  · rename_i hw
    split at h
    · rename_i v H he
      simp only [Option.some.injEq, Prod.mk.injEq] at h
      obtain ⟨rfl, rfl⟩ := h
      simp only [aop_ahead hE hc he, sh_unflag, sh_put]
      exact ⟨rfl, trivial⟩
    · simp at h
  · rename_i hw
    simp only [Option.some.injEq, Prod.mk.injEq] at h
    obtain ⟨rfl, rfl⟩ := h
    refine ⟨?_, rfl⟩
    simp only [Option.some.injEq, Prod.mk.injEq, St.mk.injEq, and_true]
    exact ⟨rfl, sh_put _ _ (.tuple [])⟩
  · simp at h

theorem trace_ahead (hE : ShE B E) : ∀ (os : List COper) {st : St} {rs : List Rec} {st' : St}, opsClosed os = true → traceOps E lim os st = some (rs, st') → traceOps E (lim + B.length) os (shS B st) = some (rs.map (shRec B), shS B st') ∧ ∀ r ∈ rs, r.o.op.closed = true
  | [], st, rs, st', _, h => by
    simp only [traceOps, Option.some.injEq, Prod.mk.injEq] at h ⊢
    obtain ⟨rfl, rfl⟩ := h
    exact ⟨⟨rfl, rfl⟩, by simp⟩
  | o :: os, st, rs, st', hc, h => by
    simp only [opsClosed, List.all_cons, Bool.and_eq_true] at hc
    simp only [traceOps] at h ⊢
    split at h
    · rename_i r s1 h1
      split at h
      · rename_i rs1 s2 h2
        simp only [Option.some.injEq, Prod.mk.injEq] at h
        obtain ⟨rfl, rfl⟩ := h
        obtain ⟨q1, q2⟩ := rec_ahead hE hc.1 h1
        obtain ⟨q3, q4⟩ := trace_ahead hE os hc.2 h2
        rw [q1]
        simp only [q3]
        refine ⟨rfl, fun r' hr => ?_⟩
        rcases List.mem_cons.1 hr with rfl | hr
        · rw [q2]; exact hc.1
        · exact q4 r' hr
      · simp at h
    · simp at h

theorem runAt_ahead (hE : ShE B E) {rs : List Rec} (hcl : ∀ r ∈ rs, r.o.op.closed = true) {i : Nat} {H H' : AHeap} (h : runAt E lim rs i H = some H') : runAt E (lim + B.length) (rs.map (shRec B)) i (shH B H) = some (shH B H') := by
  unfold runAt at h ⊢
  rw [List.getElem?_map]
  split at h
  · rename_i o T v he
    split at h
    · rename_i v' H1 ha
      split at h
      · rename_i hb
        simp only [Option.some.injEq] at h; subst h
        have := AV.beq_eq hb
        subst this
        have hc := hcl _ (List.mem_of_getElem? he)
        simp only [he, Option.map_some, shRec, aop_ahead hE hc ha, AV.beq_self, if_true]
      · simp at h
    · simp at h
  · rename_i o T he
    simp only [Option.some.injEq] at h; subst h
    simp only [he, Option.map_some, shRec, Option.map_none]
  · simp at h

theorem inert_ahead {r : Rec} (hc : r.o.op.closed = true) : inertRec (shRec B r) = inertRec r := by
  obtain ⟨o, T, v⟩ := r
  cases v with
  | none => rfl
  | some v =>
    simp only [inertRec, shRec, Option.map_some]
    cases ho : o.op with
    | append s by' str x y =>
      simp only
      simp only [COp.closed, Bool.and_eq_true, ho, COp.opds, List.all_cons] at hc
      rw [evx_sh hc.1.2.1]
      cases evx T o.cons y <;> rfl
    | buildSl s z n ps => cases v <;> rfl
    | _ => rfl

theorem explore_ahead {rs rs' : List Rec} {lim' : Nat} (h : ∀ i H H', runAt E lim rs i H = some H' → runAt E lim' rs' i (shH B H) = some (shH B H')) {c : Chk} {Hf : AHeap} : ∀ (k : Nat) (S : List Nat) (hp : AHeap), explore E lim rs c Hf k S hp = true → explore E lim' rs' c (shH B Hf) k S (shH B hp) = true := by
  intro k
  induction k with
  | zero => intro S hp hx; simp [explore] at hx
  | succ k ih =>
    intro S hp hx
    simp only [explore, Bool.and_eq_true, List.all_eq_true, Bool.or_eq_true] at hx ⊢
    refine ⟨fun r hr => (hx.1 r hr).imp (fun q => q) fun q => ?_, ?_⟩
    · rw [Option.isSome_iff_exists] at q ⊢
      obtain ⟨y, hy⟩ := q
      exact ⟨_, h _ _ _ hy⟩
    · have hx2 := hx.2
      split at hx2
      · rename_i hc
        rw [if_pos hc, heapBeq_eq hx2]
        exact heapBeq_self _
      · rename_i hc
        rw [if_neg hc]
        rw [List.all_eq_true] at hx2 ⊢
        intro e he
        have := hx2 e he
        simp only [Bool.or_eq_true] at this ⊢
        refine this.imp (fun q => q) fun q => ?_
        split at q
        · rename_i h' hr
          rw [h _ _ _ hr]
          exact ih _ _ q
        · cases q

theorem chain_ahead {rs rs' : List Rec} {lim' : Nat} (h : ∀ i H H', runAt E lim rs i H = some H' → runAt E lim' rs' i (shH B H) = some (shH B H')) : ∀ (p : List (List Nat × Option Nat)) (hp : AHeap), chainOK E lim rs p hp = true → chainOK E lim' rs' p (shH B hp) = true
  | [], hp, _ => rfl
  | (l, oe) :: p, hp, hx => by
    simp only [chainOK, Bool.and_eq_true, List.all_eq_true] at hx ⊢
    refine ⟨fun r hr => ?_, ?_⟩
    · have := hx.1 r hr
      rw [Option.isSome_iff_exists] at this ⊢
      obtain ⟨y, hy⟩ := this
      exact ⟨_, h _ _ _ hy⟩
    · have h2 := hx.2
      cases oe with
      | none => rfl
      | some e =>
        simp only at h2 ⊢
        split at h2
        · rename_i h' hr
          rw [h _ _ _ hr]
          exact chain_ahead h p h' h2
        · cases h2

theorem evalR_ahead (hE : ShE B E) {ops : List COper} {chk : Option Chk} {fg : List Nat} {st st' : St} (hc : opsClosed ops = true) (h : evalR E lim ops chk fg st = some st') : evalR E (lim + B.length) ops chk fg (shS B st) = some (shS B st') := by
  cases chk with
  | none =>
    simp only [evalR] at h ⊢
    split at h
    · rename_i h1
      rw [run_ahead hE _ hc h1]
      simp only [Option.some.injEq] at h ⊢; subst h
      simp only [shS, sh_forget]
    · simp at h
  | some c =>
    simp only [evalR] at h ⊢
    split at h
    · rename_i rs s1 h1
      obtain ⟨q1, q2⟩ := trace_ahead hE _ hc h1
      rw [q1]
      simp only
      have hth : thin (rs.map (shRec B)) c = thin rs c := by
        have : ∀ i, inertAt (rs.map (shRec B)) i = inertAt rs i := fun i => by
          unfold inertAt
          rw [List.getElem?_map]
          cases hi : rs[i]? with
          | none => rfl
          | some r => exact inert_ahead (q2 r (List.mem_of_getElem? hi))
        simp only [thin, this]
      split at h
      · rename_i hx
        have hx' : drawOK E (lim + B.length) (rs.map (shRec B)) c (shS B st).H (shS B s1).H = true := by
          unfold drawOK at hx ⊢
          cases hp : c.plan with
          | some p => rw [hp] at hx; exact chain_ahead (fun i H H' hr => runAt_ahead hE q2 hr) p _ hx
          | none =>
            rw [hp] at hx
            simp only at hx ⊢
            rw [hth]
            exact explore_ahead (B := B) (fun i H H' hr => runAt_ahead hE q2 hr) _ _ _ hx
        rw [if_pos hx']
        simp only [Option.some.injEq] at h ⊢; subst h
        simp only [shS, sh_forget]
      · simp at h
    · simp at h

def CCode.closed : CCode → Bool
  | .region ops _ _ => opsClosed ops
  | .seq a b => a.closed && b.closed
  | .cond c a b => Opd.closed c && a.closed && b.closed
  | .block _ a => a.closed
  | .loop a => a.closed
  | _ => true

theorem code_ahead (hE : ShE B E) {k : Nat} : ∀ (c : CCode) {st : St} {x : AExit} {st' : St}, c.closed = true → evalC E lim (fun b s => loopN b k s) c st = some (x, st') → evalC E (lim + B.length) (fun b s => loopN b k s) c (shS B st) = some (x, shS B st')
  | .skip, st, x, st', _, h => by simp only [evalC, Option.some.injEq, Prod.mk.injEq] at h ⊢; obtain ⟨rfl, rfl⟩ := h; exact ⟨rfl, rfl⟩
  | .exit _, st, x, st', _, h => by simp only [evalC, Option.some.injEq, Prod.mk.injEq] at h ⊢; obtain ⟨rfl, rfl⟩ := h; exact ⟨rfl, rfl⟩
  | .ret, st, x, st', _, h => by simp only [evalC, Option.some.injEq, Prod.mk.injEq] at h ⊢; obtain ⟨rfl, rfl⟩ := h; exact ⟨rfl, rfl⟩
  | .region ops chk fg, st, x, st', hc, h => by
    simp only [evalC] at h ⊢
    split at h
    · rename_i h1
      rw [evalR_ahead hE hc h1]
      simp only [Option.some.injEq, Prod.mk.injEq] at h ⊢; obtain ⟨rfl, rfl⟩ := h; exact ⟨rfl, rfl⟩
    · simp at h
  | .seq a b, st, x, st', hc, h => by
    simp only [CCode.closed, Bool.and_eq_true] at hc
    simp only [evalC] at h ⊢
    split at h
    · rename_i h1
      rw [code_ahead hE a hc.1 h1]
      exact code_ahead hE b hc.2 h
    · rename_i hne
      rw [code_ahead hE a hc.1 h]
      split
      · rename_i heq
        simp only [Option.some.injEq, Prod.mk.injEq] at heq
        obtain ⟨rfl, _⟩ := heq
        exact absurd h (hne _)
      · rfl
  | .cond c a b, st, x, st', hc, h => by
    simp only [CCode.closed, Bool.and_eq_true] at hc
    simp only [evalC, shS] at h ⊢
    rw [evx_sh hc.1.1]
    split at h
    · rename_i t ht
      rw [ht]
      simp only [AV.sh]
      cases t with
      | true => simpa [shS] using code_ahead hE a hc.1.2 (by simpa using h)
      | false => simpa [shS] using code_ahead hE b hc.2 (by simpa using h)
    · rename_i ht
      rw [ht]
      simp only [AV.sh]
      split at h
      · rename_i r1 r2 h1 h2
        obtain ⟨x1, s1⟩ := r1
        obtain ⟨x2, s2⟩ := r2
        have q1 := code_ahead hE a hc.1.2 h1
        have q2 := code_ahead hE b hc.2 h2
        simp only [shS] at q1 q2
        rw [q1, q2]
        simp only [joinR] at h ⊢
        split at h
        · rename_i hj
          obtain ⟨rfl, hl, hb⟩ := hj
          simp only [Option.some.injEq, Prod.mk.injEq] at h
          obtain ⟨rfl, rfl⟩ := h
          rw [if_pos ⟨rfl, by simp [hl], by rw [heapBeq_eq hb]; exact heapBeq_self _⟩, sh_joinT]
        · simp at h
      · simp at h
    · simp at h
  | .block id a, st, x, st', hc, h => by
    simp only [evalC] at h ⊢
    split at h
    · rename_i h1
      rw [code_ahead hE a hc h1]
      simp only
      split at h
      · rename_i hi
        rw [if_pos hi]
        simp only [Option.some.injEq, Prod.mk.injEq] at h ⊢; obtain ⟨rfl, rfl⟩ := h; exact ⟨rfl, rfl⟩
      · rename_i hi
        rw [if_neg hi]
        simp only [Option.some.injEq, Prod.mk.injEq] at h ⊢; obtain ⟨rfl, rfl⟩ := h; exact ⟨rfl, rfl⟩
    · rename_i hne
      rw [code_ahead hE a hc h]
      split
      · rename_i heq
        simp only [Option.some.injEq, Prod.mk.injEq] at heq
        obtain ⟨rfl, _⟩ := heq
        exact absurd h (hne _ _)
      · rfl
  | .loop a, st, x, st', hc, h => by
    simp only [evalC] at h ⊢
    have key : ∀ (m : Nat) {st : St}, loopN (fun s => match evalC E lim (fun b s => loopN b k s) a s with
          | some (.normal, s') => some (.inl s')
          | some r => some (.inr r)
          | none => none) m st = some (x, st') → loopN (fun s => match evalC E (lim + B.length) (fun b s => loopN b k s) a s with
          | some (.normal, s') => some (.inl s')
          | some r => some (.inr r)
          | none => none) m (shS B st) = some (x, shS B st') := by
      intro m
      induction m with
      | zero => intro st h; simp [loopN] at h
      | succ m ih =>
        intro st h
        simp only [loopN] at h ⊢
        cases he : evalC E lim (fun b s => loopN b k s) a st with
        | none => rw [he] at h; simp at h
        | some r =>
          obtain ⟨e, s3⟩ := r
          rw [code_ahead hE a hc he]
          rw [he] at h
          cases e with
          | normal => exact ih h
          | exit i =>
            simp only [Option.some.injEq, Prod.mk.injEq] at h ⊢
            obtain ⟨rfl, rfl⟩ := h
            exact ⟨rfl, rfl⟩
          | ret =>
            simp only [Option.some.injEq, Prod.mk.injEq] at h ⊢
            obtain ⟨rfl, rfl⟩ := h
            exact ⟨rfl, rfl⟩
    exact key k h

theorem res_ahead {T : List AV} {H : AHeap} : ∀ (rs : List CRes) {vs : List AV}, resV T H rs = some vs → resV (T.map (AV.sh B.length)) (shH B H) rs = some (vs.map (AV.sh B.length))
  | [], vs, h => by simp only [resV, Option.some.injEq] at h ⊢; subst h; rfl
  | .t n :: rs, vs, h => by
    simp only [resV, Option.map_eq_some_iff] at h ⊢
    obtain ⟨ws, h1, rfl⟩ := h
    exact ⟨_, res_ahead rs h1, by rw [sh_getD]; rfl⟩
  | .cell n agg sz :: rs, vs, h => by
    simp only [resV, sh_getD] at h ⊢
    split at h
    · rename_i r off heq
      rw [heq]
      simp only [AV.sh]
      split at h
      · rename_i cs hg
        simp only [shH_get hg, AObj.sh, sh_readCells]
        split at h
        · rename_i v ws h1 h2
          simp only [Option.some.injEq] at h; subst h
          rw [h1, res_ahead rs h2]; rfl
        · simp at h
      · simp at h
    · simp at h

theorem sh_oneOf (vs : List AV) : oneOf (vs.map (AV.sh b)) = (oneOf vs).sh b := by
  match vs with
  | [] => rfl
  | [v] => rfl
  | v :: w :: vs =>
    simp only [List.map_cons, oneOf, AV.sh, shs_map, AV.tuple.injEq, List.map_map]
    simp only [List.cons.injEq, Function.comp]
    exact ⟨(sh_unf v).symm, (sh_unf w).symm, List.map_congr_left fun a _ => (sh_unf a).symm⟩

mutual
theorem freeze_ahead {H : AHeap} {base : Nat} : ∀ (v : AV) {w : AV}, freeze H base v = some w → freeze (shH B H) (base + B.length) (v.sh B.length) = some (w.sh B.length)
  | .undef, w, h => by simp only [freeze, AV.sh, Option.some.injEq] at h ⊢; subst h; rfl
  | .d x, w, h => by simp only [freeze, AV.sh, Option.some.injEq] at h ⊢; subst h; rfl
  | .fslice xs, w, h => by simp only [freeze, AV.sh, Option.some.injEq] at h ⊢; subst h; rfl
  | .lit xs, w, h => by simp only [freeze, AV.sh, Option.some.injEq] at h ⊢; subst h; rfl
  | .pref cs, w, h => by simp only [freeze, AV.sh, Option.some.injEq] at h ⊢; subst h; rfl
  | .oslice r off len cap sz, w, h => by
    simp only [freeze, AV.sh] at h ⊢
    split at h
    · rename_i hb
      rw [if_pos ⟨by omega, hb.2⟩]
      split at h
      · rename_i cs hg
        simp only [shH_get hg, AObj.sh, List.length_map]
        split at h
        · rename_i hl
          rw [if_pos hl, ← List.map_drop, sh_chunks]
          simp only [Option.map_eq_some_iff] at h ⊢
          obtain ⟨xs, h1, rfl⟩ := h
          exact ⟨xs, h1, rfl⟩
        · simp at h
      · simp at h
    · simp at h
  | .agg cs, w, h => by
    simp only [freeze, AV.sh] at h ⊢
    split at h
    · rename_i vs h1
      simp only [Option.some.injEq] at h; subst h
      rw [freezes_ahead cs h1]
      simp only [sh_mkAgg]
    · simp at h
  | .tuple cs, w, h => by
    simp only [freeze, AV.sh, Option.map_eq_some_iff] at h ⊢
    obtain ⟨vs, h1, rfl⟩ := h
    exact ⟨_, freezes_ahead cs h1, by simp [AV.sh, shs_map]⟩
  | .nilmap, w, h => by simp only [freeze, AV.sh, Option.some.injEq] at h ⊢; subst h; rfl
  | .nilfunc, w, h => by simp only [freeze, AV.sh, Option.some.injEq] at h ⊢; subst h; rfl
  | .niliface, w, h => by simp only [freeze, AV.sh, Option.some.injEq] at h ⊢; subst h; rfl
  | .iface t v, w, h => by
    simp only [freeze, AV.sh, Option.map_eq_some_iff] at h ⊢
    obtain ⟨u, h1, rfl⟩ := h
    exact ⟨_, freeze_ahead v h1, by simp [AV.sh, sh_unf]⟩
  | .ptr _ _, w, h => by simp [freeze] at h
  | .mapr _, w, h => by simp [freeze] at h
  | .func _ _, w, h => by simp [freeze] at h
  | .ubool, w, h => by simp [freeze] at h
theorem freezes_ahead {H : AHeap} {base : Nat} : ∀ (vs : List AV) {ws : List AV}, freezes H base vs = some ws → freezes (shH B H) (base + B.length) (AV.shs B.length vs) = some (ws.map (AV.sh B.length))
  | [], ws, h => by simp only [freezes, AV.shs, Option.some.injEq] at h ⊢; subst h; rfl
  | v :: vs, ws, h => by
    simp only [freezes, AV.shs] at h ⊢
    split at h
    · rename_i x xs h1 h2
      simp only [Option.some.injEq] at h; subst h
      rw [freeze_ahead v h1, freezes_ahead vs h2]
      simp only [List.map_cons, sh_unf]
    · simp at h
end

theorem fn_ahead (hE : ShE B E) {k : Nat} {fn : CFn} (hc : fn.body.closed = true) {args : List AV} {H H' : AHeap} {v : AV} (h : evalF E (fun b s => loopN b k s) fn lim args H = some (v, H')) :
    evalF E (fun b s => loopN b k s) fn (lim + B.length) (args.map (AV.sh B.length)) (shH B H) = some (v.sh B.length, shH B H') := by
  simp only [evalF, List.length_map] at h ⊢
  split at h
  · rename_i hl
    rw [if_pos hl]
    have hT : args.map (AV.sh B.length) ++ List.replicate (fn.ntmps - args.length) (AV.tuple []) = (args ++ List.replicate (fn.ntmps - args.length) (AV.tuple [])).map (AV.sh B.length) := by
      rw [List.map_append, List.map_replicate]; rfl
    have hlim : (if fn.keep = true then lim + B.length else (shH B H).length) = (if fn.keep = true then lim else H.length) + B.length := by
      rw [shH_len]; split <;> rfl
    rw [hT, hlim]
    split at h
    · simp at h
    · rename_i x st hne he
      have := code_ahead (B := B) hE fn.body hc he
      simp only [shS] at this
      rw [this]
      split
      · rename_i heq
        simp only [Option.some.injEq, Prod.mk.injEq] at heq
        exact (hne _ heq.1).elim
      · rename_i x2 st2 _ heq
        simp only [Option.some.injEq, Prod.mk.injEq] at heq
        obtain ⟨rfl, rfl⟩ := heq
        split at h
        · rename_i vs hr
          simp only [res_ahead fn.res hr, sh_oneOf, shH_len]
          split at h
          · rename_i hk
            rw [if_pos hk]
            simp only [Option.some.injEq, Prod.mk.injEq] at h ⊢
            obtain ⟨rfl, rfl⟩ := h
            exact ⟨rfl, rfl⟩
          · rename_i hk
            rw [if_neg hk]
            simp only [Option.map_eq_some_iff, Prod.mk.injEq] at h ⊢
            obtain ⟨w, h1, rfl, rfl⟩ := h
            exact ⟨_, freeze_ahead _ h1, rfl, rfl⟩
        · simp at h
      · rename_i heq; simp at heq
    · simp at h
  · simp at h

/-- Code whose constants hold no place in memory. -/
def ClosedCode (code : FuncId → Option CFn) : Prop := ∀ f c, code f = some c → c.body.closed = true

/-- What stands for itself does not mind memory ahead. -/
def PrimAny (prim : FuncId → Option AFun) : Prop := ∀ f F, prim f = some F → ∀ (B : AHeap) lim a H v H', F lim a H = some (v, H') → F (lim + B.length) (a.map (AV.sh B.length)) (shH B H) = some (v.sh B.length, shH B H')

theorem noPrim_any : PrimAny noPrim := fun f F h => by cases h

theorem env_ahead {code : FuncId → Option CFn} {prim : FuncId → Option AFun} (hp : PrimAny prim) (hc : ClosedCode code) (B : AHeap) : ∀ k, ShE B (envN code prim k)
  | 0 => fun f lim a H v H' h => by simp [envN] at h
  | k + 1 => fun f lim a H v H' h => by
    simp only [envN] at h ⊢
    cases hF : prim f with
    | some F =>
      simp only [hF] at h ⊢
      exact hp f F hF B lim a H v H' h
    | none =>
      simp only [hF] at h ⊢
      cases hf : code f with
      | none => simp only [hf] at h; simp at h
      | some c =>
        simp only [hf] at h ⊢
        exact fn_ahead (env_ahead hp hc B k) (hc f c hf) h

theorem closed_of {l : List (Option CFn)} (h : (l.all fun o => match o with | some c => c.body.closed | none => true) = true) : ClosedCode (codeOf l) := fun f c hf => by
  rw [List.all_eq_true] at h
  exact h (some c) (List.mem_of_getElem? (codeOf_some hf))

/-- A call that keeps nothing, told once at an empty memory, holds at any. -/
theorem ev_anyP {code : FuncId → Option CFn} {prim : FuncId → Option AFun} (hp : PrimAny prim) (hc : ClosedCode code) {f k : Nat} (hpf : prim f = none) {args : List AV} {v : AV} {c : CFn} (hf : code f = some c) (hk : c.keep = false) (h : envN code prim k f 0 args [] = some (v, [])) (ha : args.all AV.noRef = true) (hv : v.noRef = true) (lim : Nat) (B : AHeap) :
    Ev (envN code prim) f lim args B v B := by
  have h1 := env_ahead hp hc B k f 0 args [] v [] h
  rw [noRef_all ha, noRef_sh hv, show shH B [] = B by simp [shH]] at h1
  cases k with
  | zero => simp [envN] at h
  | succ k =>
    have h2 : envN code prim (k + 1) f lim args B = some (v, B) := by
      simp only [envN, hpf, hf, evalF, hk] at h1 ⊢
      exact h1
    refine Fn.ev ?_
    exact ev_mk fun n hn => env_mono code prim hn f lim args B _ h2

theorem ev_any {code : FuncId → Option CFn} (hc : ClosedCode code) {f k : Nat} {args : List AV} {v : AV} {c : CFn} (hf : code f = some c) (hk : c.keep = false) (h : envN code noPrim k f 0 args [] = some (v, [])) (ha : args.all AV.noRef = true) (hv : v.noRef = true) (lim : Nat) (B : AHeap) :
    Ev (envN code noPrim) f lim args B v B := ev_anyP noPrim_any hc rfl hf hk h ha hv lim B

end

end Go.Abs

/- What a row's arguments are, as pure data of the law's own kinds. -/
namespace Go.Abs
open Go.RowKit Go.Deep

variable [Tab]

theorem list_of {α β : Type} {Q : α → Prop} {f : α → β} : ∀ {xs : List β}, (∀ x ∈ xs, ∃ y, Q y ∧ x = f y) → ∃ l : List α, (∀ y ∈ l, Q y) ∧ xs = l.map f
  | [], _ => ⟨[], by simp, rfl⟩
  | x :: xs, h => by
    obtain ⟨y, h1, h2⟩ := h x (by simp)
    obtain ⟨l, h3, h4⟩ := list_of (xs := xs) fun z hz => h z (by simp [hz])
    exact ⟨y :: l, by simpa using ⟨h1, h3⟩, by simp [h2, h4]⟩

section
variable {P : Program} {w : World} {t e : TypeId}

theorem Opens.mono {A B : List D → Prop} (h : Opens P w t A) (k : ∀ ds, A ds → B ds) : Opens P w t B := fun fuel H enc base sp hd cs x hx hw => by
  obtain ⟨ds, h1, h2⟩ := h fuel H enc base sp hd cs x hx hw
  exact ⟨ds, k _ h1, h2⟩

theorem wf_i64 {n : Int} (h : (Lit.int .i64 n).wf = true) : -9223372036854775808 ≤ n ∧ n ≤ 9223372036854775807 := by
  simp only [Lit.wf, Bool.and_eq_true, decide_eq_true_eq, IntKind.min, IntKind.max, IntKind.signed, IntKind.bits] at h
  have e1 : (2 : Int) ^ (64 - 1) = 9223372036854775808 := by decide
  simp only [if_true, e1] at h
  omega

theorem wf_u8 {n : Int} (h : (Lit.int .u8 n).wf = true) : 0 ≤ n ∧ n ≤ 255 := by
  simp only [Lit.wf, Bool.and_eq_true, decide_eq_true_eq] at h
  have e1 : IntKind.u8.min = 0 := by decide
  have e2 : IntKind.u8.max = 255 := by decide
  rw [e1, e2] at h
  exact h

theorem opens_i64 (ht : P.underlying t = some (.int .i64)) : Opens P w t fun ds => ∃ n : Int, ds = [.int .i64 n] ∧ (-9223372036854775808 ≤ n ∧ n ≤ 9223372036854775807) :=
  (opens_int ht).mono fun ds ⟨n, h1, h2⟩ => ⟨n, h1, wf_i64 h2⟩

theorem opens_bytes (ht : P.underlying t = some (.slice e)) (he : P.underlying e = some (.int .u8)) (hs : P.cellsOf e = 1) : Opens P w t fun ds => ∃ s : List UInt8, ds = [bD s] ∧ s.length ≤ maxLen :=
  (opens_slice ht hs (by decide) (opens_int he)).mono fun ds ⟨xs, h1, h2, h3⟩ => by
    obtain ⟨l, h4, h5⟩ := list_of (Q := fun _ : UInt8 => True) (f := byteD) (xs := xs) fun x hx => by
      obtain ⟨es, ⟨n, rfl, hw⟩, _, rfl⟩ := h3 x hx
      have := wf_u8 hw
      refine ⟨UInt8.ofNat n.toNat, trivial, ?_⟩
      simp only [pack, byteD, if_true, List.headD_cons, D.int.injEq, true_and]
      rw [show (UInt8.ofNat n.toNat).toNat = n.toNat % 256 from by simp]
      omega
    exact ⟨l, by rw [h1, h5], by rw [h5] at h2; simpa using h2⟩

/-- A row of what one element is. -/
theorem opens_rows {α : Type} {sz : Nat} {A : List D → Prop} {Q : α → Prop} {f : α → D} (ht : P.underlying t = some (.slice e)) (hs : P.cellsOf e = sz) (hs0 : 0 < sz) (he : Opens P w e A) (hf : ∀ es, A es → es.length = sz → ∃ y, Q y ∧ pack sz es = f y) :
    Opens P w t fun ds => ∃ l : List α, ds = [.slice (l.map f)] ∧ l.length ≤ maxLen ∧ ∀ y ∈ l, Q y :=
  (opens_slice ht hs hs0 he).mono fun ds ⟨xs, h1, h2, h3⟩ => by
    obtain ⟨l, h4, h5⟩ := list_of (Q := Q) (f := f) (xs := xs) fun x hx => by
      obtain ⟨es, q1, q2, rfl⟩ := h3 x hx
      exact hf es q1 q2
    exact ⟨l, by rw [h1, h5], by rw [h5] at h2; simpa using h2, h4⟩

/-- An argument that is one cell. -/
theorem arg_one {H : Type} {enc : TypeId × Value → H} {base : Nat} {sp : Nat → Bool} {hd : Bool} {v : Value} {d : DataW H} {ps : List MemPlace} {A : List D → Prop} (ho : Opens P w t A) (hc : v.cells.toList = [v]) (h : DataW.Trod enc P w base sp hd t v d ps) (hw : Light P t d) :
    ∃ x, A [x] ∧ VR (Gh.still w) w (.d x) v ∧ Triv (.d x) v := by
  obtain ⟨fuel, hf⟩ := h
  obtain ⟨ds, h1, h2⟩ := ho fuel H enc base sp hd _ _ hf hw
  rw [hc] at h2
  have := h2.len
  match ds, this with
  | [x], _ => exact ⟨x, h1, arg_vr h2⟩

theorem arg_slice {H : Type} {enc : TypeId × Value → H} {r : Reach} {b0 base : Nat} {sp : Nat → Bool} {hd : Bool} {v : Value} {d : DataW H} {ps : List MemPlace} {A : List D → Prop} (ht : P.underlying t = some (.slice e)) (hval : Value.okWide P w r b0 t v) (ho : Opens P w t A) (h : DataW.Trod enc P w base sp hd t v d ps) (hw : Light P t d) :
    ∃ x, A [x] ∧ VR (Gh.still w) w (.d x) v ∧ Triv (.d x) v := by
  obtain ⟨a, len, cap, rfl⟩ := WideShapes.okWide_slice ht hval
  exact arg_one ho (by simp [Value.cells]) h hw

/-- An argument that is a struct. -/
theorem arg_struct {fs : Array Field} {H : Type} {enc : TypeId × Value → H} {r : Reach} {b0 base : Nat} {sp : Nat → Bool} {hd : Bool} {v : Value} {d : DataW H} {ps : List MemPlace} {A : List D → Prop} (ht : P.underlying t = some (.struct fs)) (hval : Value.okWide P w r b0 t v) (ho : Opens P w t A) (h : DataW.Trod enc P w base sp hd t v d ps) (hw : Light P t d) :
    ∃ ds, A ds ∧ VR (Gh.still w) w (.d (.agg ds)) v ∧ Triv (.d (.agg ds)) v := by
  obtain ⟨cs, rfl, _⟩ := WideShapes.okWide_struct ht hval
  obtain ⟨fuel, hf⟩ := h
  obtain ⟨ds, h1, h2⟩ := ho fuel H enc base sp hd _ _ hf hw
  have e : (Value.agg cs).cells.toList = cs.toList := by simp [Value.cells]
  rw [e] at h2
  exact ⟨ds, h1, .d _ _ (.agg ds cs (by simpa using h2.len) h2.cell fun i c u hc hu => h2.dr i c u hc (by simpa using hu)), Triv.d _ _⟩

theorem lt_of_trod {H : Type} {enc : TypeId × Value → H} {base : Nat} {sp : Nat → Bool} {hd : Bool} {v : Value} {d : DataW H} {ps : List MemPlace} (h : DataW.Trod enc P w base sp hd t v d ps) : ∀ x ∈ ps, x.block < w.heap.size := by
  obtain ⟨m, hm⟩ := h
  exact DataW.trod_lt m _ _ _ hm

end

end Go.Abs

/- Short names for the lemmas that each step uses. -/
namespace Go.Abs

variable [Tab]
theorem z0 : type_of% @eq_self := @eq_self
theorem z1 : type_of% @byteD_cells := @byteD_cells
theorem z2 : type_of% @List.getD_cons_succ := @List.getD_cons_succ
theorem z3 : type_of% @List.getD_cons_zero := @List.getD_cons_zero
theorem z4 : type_of% @List.set_cons_succ := @List.set_cons_succ
theorem z5 : type_of% @List.set_cons_zero := @List.set_cons_zero
theorem z6 : type_of% @List.getElem?_cons_succ := @List.getElem?_cons_succ
theorem z7 : type_of% @List.getElem?_cons_zero := @List.getElem?_cons_zero
theorem z8 : type_of% @List.map_cons := @List.map_cons
theorem z9 : type_of% @List.map_nil := @List.map_nil
theorem z10 : type_of% @List.take_succ_cons := @List.take_succ_cons
theorem z11 : type_of% @List.take_zero := @List.take_zero
theorem z12 : type_of% @List.drop_succ_cons := @List.drop_succ_cons
theorem z13 : type_of% @List.drop_zero := @List.drop_zero
theorem z14 : type_of% @List.length_cons := @List.length_cons
theorem z15 : type_of% @List.length_nil := @List.length_nil
theorem z16 : type_of% @List.length_append := @List.length_append
theorem z17 : type_of% @List.length_set := @List.length_set
theorem z18 : type_of% @List.all_cons := @List.all_cons
theorem z19 : type_of% @List.all_nil := @List.all_nil
theorem z20 : type_of% @List.nil_append := @List.nil_append
theorem z21 : type_of% @List.cons_append := @List.cons_append
theorem z22 : type_of% @List.append_nil := @List.append_nil
theorem z23 : type_of% @Bool.false_eq_true := @Bool.false_eq_true
theorem z24 : type_of% @Bool.true_eq_false := @Bool.true_eq_false
theorem z25 : type_of% @Nat.add_zero := @Nat.add_zero
theorem z26 : type_of% @Nat.zero_add := @Nat.zero_add
theorem z27 : type_of% @Nat.zero_mul := @Nat.zero_mul
theorem z28 : type_of% @Nat.mul_zero := @Nat.mul_zero
theorem z29 : type_of% @beq_self_eq_true := @beq_self_eq_true
theorem z30 : type_of% @bne_self_eq_false := @bne_self_eq_false
theorem z31 : type_of% @Bool.not_false := @Bool.not_false
theorem z32 : type_of% @Bool.not_true := @Bool.not_true
theorem z33 : type_of% @Bool.and_true := @Bool.and_true
theorem z34 : type_of% @Bool.and_self := @Bool.and_self
theorem z35 : type_of% @Bool.and_false := @Bool.and_false
theorem z36 : type_of% @Bool.false_and := @Bool.false_and
theorem z37 : type_of% @Bool.true_and := @Bool.true_and
theorem z38 : type_of% @Bool.or_true := @Bool.or_true
theorem z39 : type_of% @Bool.or_false := @Bool.or_false
theorem z40 : type_of% @Bool.true_or := @Bool.true_or
theorem z41 : type_of% @Bool.false_or := @Bool.false_or
theorem z42 : type_of% @decide_true := @decide_true
theorem z43 : type_of% @decide_false := @decide_false
theorem z44 : type_of% @Bool.true_beq := @Bool.true_beq
theorem z45 : type_of% @Bool.false_beq := @Bool.false_beq
theorem z46 : type_of% @get_last := @get_last
theorem z47 : type_of% @set_last := @set_last
theorem z48 : type_of% @and_self := @and_self
theorem z49 : type_of% @and_true := @and_true
theorem z50 : type_of% @true_and := @true_and
theorem z51 : type_of% @Nat.le_refl := @Nat.le_refl
theorem z52 : type_of% @Int.toNat_natCast := @Int.toNat_natCast
theorem z53 : type_of% @Nat.min_self := @Nat.min_self
theorem z54 : type_of% @dite_true := @dite_true
theorem z55 : type_of% @nat_nonneg := @nat_nonneg
theorem z56 : type_of% @nat0 := @nat0
theorem z57 : type_of% @Int.le_refl := @Int.le_refl
theorem z58 : type_of% @Int.toNat_zero := @Int.toNat_zero
theorem z59 : type_of% @bytesOf_map := @bytesOf_map
theorem z60 : type_of% @Option.map_some := @Option.map_some
theorem z61 : type_of% @Option.map_none := @Option.map_none
theorem z62 : type_of% @List.getElem?_map := @List.getElem?_map
theorem z63 : type_of% @List.flatten_cons := @List.flatten_cons
theorem z64 : type_of% @List.flatten_nil := @List.flatten_nil
theorem z65 : type_of% @headSz_nil := @headSz_nil
theorem z66 : type_of% @headSz_cons := @headSz_cons
theorem z67 : type_of% @headSz_bytes := @headSz_bytes
theorem z68 : type_of% @List.filter_cons := @List.filter_cons
theorem z69 : type_of% @List.filter_nil := @List.filter_nil
theorem z70 : type_of% @AV.beq_self := @AV.beq_self
theorem z71 : type_of% @heapBeq_self := @heapBeq_self
theorem z72 : type_of% @Option.isSome_some := @Option.isSome_some
theorem z73 : type_of% @List.contains_cons := @List.contains_cons
theorem z74 : type_of% @List.contains_nil := @List.contains_nil
theorem z75 : type_of% @Prod.mk.injEq := @Prod.mk.injEq
theorem z76 : type_of% @pair_beq := @pair_beq
end Go.Abs

/- Functions without a body, which stand for themselves: the search for a byte. -/
namespace Go.Abs

variable [Tab]

/-- The place of the first such byte of a text. -/
def idxByteF : AFun := fun _ args H => match args with
  | [.d (.str s), .d (.int .u8 c)] => some (.d (.int .i64 (Lib.indexByte s c.toNat.toUInt8)), H)
  | _ => none

theorem idxByte_inv {lim : Nat} {args : List AV} {H : AHeap} {r : AV × AHeap} (h : idxByteF lim args H = some r) : ∃ s c, args = [.d (.str s), .d (.int .u8 c)] ∧ r = (.d (.int .i64 (Lib.indexByte s c.toNat.toUInt8)), H) := by
  unfold idxByteF at h
  split at h
  · simp only [Option.some.injEq] at h
    exact ⟨_, _, rfl, h.symm⟩
  · cases h

theorem idxByte_sound {P : Program} {f : FuncId} {fn : Func} (hf : P.funcs[f]? = some fn) (hname : (fn.name == "runtime.NumGoroutine") = false) (hb : fn.body.isNone = true) (hn : Extern.findNext fn = none)
    (he : Extern.find fn = some Extern.BytealgIndexByte.indexByte) : FSound P f idxByteF := by
  intro lim args H a H' h hlim
  obtain ⟨s, c, rfl, hr⟩ := idxByte_inv h
  obtain ⟨rfl, rfl⟩ := Prod.mk.inj hr
  refine ⟨Ext.refl _ _, fun vals g w hH hn' hl hv => .inr ?_⟩
  obtain ⟨vl⟩ := vals
  match vl, hl with
  | [u, v], _ =>
    have h0 := (hv 0 _ u rfl (by simp)).1
    have h1 := (hv 1 _ v rfl (by simp)).1
    cases h0 with
    | d _ _ h0 => cases h0 with
      | str _ t ht => cases h1 with
        | d _ _ h1 => cases h1 with
          | int _ _ =>
            refine ⟨.int .i64 (Lib.indexByte s c.toNat.toUInt8), g, w, ?_, WF.refl _ _, hH, .d _ _ (.int _ _), fun xs e => by cases e⟩
            rw [run_callFunc_extern hf hname hb hn he]
            have := Lib.run_indexByteString (P := P) t c w
            rw [ht] at this
            rw [this]; rfl

theorem idxByte_any (B : AHeap) (lim : Nat) (a : List AV) (H : AHeap) (v : AV) (H' : AHeap) (h : idxByteF lim a H = some (v, H')) : idxByteF (lim + B.length) (a.map (AV.sh B.length)) (shH B H) = some (v.sh B.length, shH B H') := by
  obtain ⟨s, c, rfl, hr⟩ := idxByte_inv h
  obtain ⟨rfl, rfl⟩ := Prod.mk.inj hr
  rfl

end Go.Abs

/- From a contract of the kit, which leaves what was as it was, to what stands for itself. -/
namespace Go.Abs
open Go.RowKit

variable [Tab]

section
variable {g : Gh} {H : AHeap} {w w' : World}

theorem below_wf (hH : HeapOK g H w) (h : Below w.heap.size w w') : WF g w g w' where
  os := h.os
  tape := h.tape
  output := h.output
  size := h.size
  idle b hb _ := ⟨h.block b hb, rfl, rfl⟩
  stays b i hi := ⟨hi, cellAt_block (h.block b (hH.bd_lt hi)) i⟩
  n := Nat.le_refl _
  rho _ _ := rfl
  out _ h := h
  mine _ h := h

theorem below_heap (hH : HeapOK g H w) (h : Below w.heap.size w w') : HeapOK g H w' where
  n := hH.n
  own := hH.own
  obj r o ho := (hH.obj r o ho).keep (below_wf hH h) (by rw [hH.n]; exact (List.getElem?_eq_some_iff.1 ho).1)
    (fun hd => h.block _ (hH.rho_lt (by rw [hH.n]; exact (List.getElem?_eq_some_iff.1 ho).1) (by unfold Alive; rw [ho]; intro e; injection e with e; exact hd e)))
    (fun j c v hf => hf.keep fun b hb => ⟨hb, rfl, fun cs e fr hh hz => ⟨cs, fr, by rw [h.block b (hH.own_lt (by rw [hb]; simp))]; exact hh, rfl, hz⟩⟩)
  new b hb := hH.new b (Nat.le_trans h.size hb)
  glob n cs hn := (below_wf hH h).vr (hH.glob n cs hn)

end

/-- One text in, pure data out, nothing else touched. -/
theorem text_sound {P : Program} {f : FuncId} {fn : Func} (hf : P.funcs[f]? = some fn) (hb : fn.body.isSome = true) (hname : (fn.name == "runtime.NumGoroutine") = false) {ok : List UInt8 → Prop} [DecidablePred ok] {out : List UInt8 → D} {res : ByteArray → Value}
    (hr : ∀ (bd : Nat → Nat) (w : World) s, DR bd w (out s.data.toList) (res s))
    (h : ∀ (g : Gh) (H : AHeap) (w : World), HeapOK g H w → ∀ s : ByteArray, ok s.data.toList → Calls P f #[.string s] w fun e w' => e = .returned (res s) ∧ Below w.heap.size w w') :
    FSound P f fun _ args H => match args with
      | [.d (.str s)] => if ok s then some (.d (out s), H) else none
      | _ => none := by
  intro lim args H a H' hF hlim
  simp only at hF
  split at hF
  · rename_i s
    split at hF
    · rename_i hok
      simp only [Option.some.injEq, Prod.mk.injEq] at hF
      obtain ⟨rfl, rfl⟩ := hF
      refine ⟨Ext.refl _ _, fun vals g w hH hn hl hv => .inl ⟨⟨fn, hf, hb, hname⟩, ?_⟩⟩
      obtain ⟨vl⟩ := vals
      match vl, hl with
      | [u], _ =>
        have h0 := (hv 0 _ u rfl (by simp)).1
        cases h0 with
        | d _ _ h0 => cases h0 with
          | str _ t ht =>
            subst ht
            refine Calls.mono (h g H w hH t hok) ?_
            rintro e w' ⟨rfl, hbel⟩
            exact ⟨_, g, rfl, below_wf hH hbel, below_heap hH hbel, .d _ _ (hr _ _ t), fun xs e => by cases e⟩
    · cases hF
  · cases hF

end Go.Abs
