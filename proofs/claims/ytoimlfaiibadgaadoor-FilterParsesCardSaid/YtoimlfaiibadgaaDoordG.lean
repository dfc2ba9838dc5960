/- The kit's contract of slices.Grow at an empty row, as what stands for itself. -/
import Derived.Test.YtoimlfaiibadgaaDoorAbsC
import Derived.Shelf.Spec.SlicesGrow
set_option linter.unusedSimpArgs false
set_option linter.unusedVariables false
set_option linter.all false
namespace Go.Proofs.YtoimlfaiibadgaaDoor
open Go Go.Abs Go.RowKit Go.Lib Go.Shelf

/-- A row of no elements, grown: room for so many. -/
def growF (bytes : Nat) (z : AV) : AFun := fun _ args H => match args with
  | [.fslice [], .d (.int .i64 n)] =>
    if 0 ≤ n ∧ n * bytes ≤ 140737488355328 ∧ n ≤ 4611686018427387904 then (if n = 0 then some (.fslice [], H) else some (.oslice H.length 0 0 n.toNat 1, H ++ [.cells (List.replicate n.toNat z)])) else none
  | _ => none

theorem grow_inv {bytes : Nat} {z : AV} {lim : Nat} {args : List AV} {H : AHeap} {r : AV × AHeap} (h : growF bytes z lim args H = some r) :
    ∃ n : Int, args = [.fslice [], .d (.int .i64 n)] ∧ (0 ≤ n ∧ n * bytes ≤ 140737488355328 ∧ n ≤ 4611686018427387904) ∧ ((n = 0 ∧ r = (.fslice [], H)) ∨ (n ≠ 0 ∧ r = (.oslice H.length 0 0 n.toNat 1, H ++ [.cells (List.replicate n.toNat z)]))) := by
  unfold growF at h
  split at h
  · rename_i n
    split at h
    · rename_i hc
      split at h
      · rename_i h0
        simp only [Option.some.injEq] at h
        exact ⟨n, rfl, hc, .inl ⟨h0, h.symm⟩⟩
      · rename_i h0
        simp only [Option.some.injEq] at h
        exact ⟨n, rfl, hc, .inr ⟨h0, h.symm⟩⟩
    · cases h
  · cases h

theorem zero_at {zv : Value} (hz : zv.cells = #[zv]) {n j : Nat} {v : Value} (h : (Builtin.zeroCells zv.cells n)[j]? = some v) : v = zv := by
  unfold Builtin.zeroCells at h
  rw [hz] at h
  simp only [Array.getElem?_map, Option.map_eq_some_iff] at h
  obtain ⟨i, _, rfl⟩ := h
  simp [Nat.mod_one]

theorem zero_size {zv : Value} (hz : zv.cells = #[zv]) (n : Nat) : (Builtin.zeroCells zv.cells n).size = n := by
  unfold Builtin.zeroCells
  rw [hz]; simp

variable [Tab] {P : Program} {ρ : Ren}

theorem grow_sound (L : Lays8.n4 P ρ) {f : FuncId} (hρ : ρ.f 4 = f) {fn : Func} (hf : P.funcs[f]? = some fn) (hb : fn.body.isSome = true) (hname : (fn.name == "runtime.NumGoroutine") = false) {i0 : TypeInfo} {zv : Value} (hi0 : P.info? (ρ.t 25) = some i0) (hz0 : i0.zero = some zv)
    (hs : i0.size = 1) {bytes : Nat} (hby : i0.bytes = bytes) (hzc : zv.cells = #[zv]) {z : AV} (hzv : ∀ g w, VR g w z zv ∧ Triv z zv) (hzcell : z.isCell = true) : FSound P f (growF bytes z) := by
  subst hρ
  intro lim args H a H' h hlim
  obtain ⟨n, rfl, ⟨h0, h1, h2⟩, hr⟩ := grow_inv h
  have hext : Ext lim H H' := by
    rcases hr with ⟨_, hr⟩ | ⟨_, hr⟩
    · obtain ⟨_, rfl⟩ := Prod.mk.inj hr; exact Ext.refl _ _
    · obtain ⟨_, rfl⟩ := Prod.mk.inj hr
      exact ⟨by simp, by rw [List.take_append_of_le_length hlim]⟩
  refine ⟨hext, fun vals g w hH hn hl hv => .inl ⟨⟨fn, hf, hb, hname⟩, ?_⟩⟩
  obtain ⟨vl⟩ := vals
  match vl, hl with
  | [u, v], _ =>
    have q0 := hv 0 _ u rfl (by simp)
    have q1 := (hv 1 _ v rfl (by simp)).1
    obtain ⟨p, c, rfl⟩ := q0.2 [] rfl
    have hc0 : c = 0 := by
      cases q0.1 with
      | fsl _ _ h => cases h with
        | slnil => rfl
        | sle a cap => rfl
        | slice xs b off len cap sz vs hlen hcap hu hf hc h => simpa using hlen
    subst hc0
    cases q1 with
    | d _ _ q1 => cases q1 with
      | int _ _ =>
        obtain ⟨m, rfl⟩ : ∃ m : Nat, n = (m : Int) := ⟨n.toNat, by omega⟩
        rcases hr with ⟨hm, hr⟩ | ⟨hm, hr⟩
        · obtain ⟨rfl, rfl⟩ := Prod.mk.inj hr
          obtain rfl : m = 0 := by omega
          refine Calls.mono (Any8.slices_Grow_room L p 0 0 0 w (Nat.le_refl _) (by omega) (by omega) (by omega)) ?_
          rintro e w' ⟨rfl, rfl⟩
          exact ⟨_, g, rfl, WF.refl _ _, hH, q0.1, FOK.triv q0.2⟩
        · obtain ⟨rfl, rfl⟩ := Prod.mk.inj hr
          have hm0 : 0 < m := by omega
          have hbig : (0 + m) * i0.bytes ≤ 140737488355328 := by
            rw [hby, Nat.zero_add]
            have : ((m * bytes : Nat) : Int) ≤ 140737488355328 := by rw [Int.natCast_mul]; exact h1
            omega
          refine Calls.mono (Any8.slices_Grow_grow L i0 zv hi0 hz0 (by omega) p 0 0 m [] w (Nat.le_refl _) (by omega) hbig (by omega) (by simp) (fun _ => rfl) (fun a _ j v hj => by simp at hj)) ?_
          rintro e w' ⟨rfl, rfl⟩
          rw [Nat.zero_add, Nat.sub_zero]
          have hge : m ≤ grownCap w m 0 (ρ.t 25) := grownCap_ge w _ _ _
          generalize grownCap w m 0 (ρ.t 25) = G at hge
          have hHd := Go.Abs.heap_drew (w := w) hH
          have hsz : (#[] ++ Builtin.zeroCells zv.cells m ++ Builtin.zeroCells zv.cells (G - m)).size = G := by
            simp [zero_size hzc]; omega
          have hall : ∀ (j : Nat) v, (#[] ++ Builtin.zeroCells zv.cells m ++ Builtin.zeroCells zv.cells (G - m))[j]? = some v → v = zv := fun j v hj => by
            rw [Array.empty_append, Array.getElem?_append] at hj
            split at hj
            · exact zero_at hzc hj
            · exact zero_at hzc hj
          have key := op_newOb hHd [] (.cells (([] : List Value).toArray ++ Builtin.zeroCells zv.cells m ++ Builtin.zeroCells zv.cells (G - m)) (ρ.t 25)) (.cells (List.replicate m z)) (a := .oslice H.length 0 0 m 1) (v := .slice (some ⟨w.drew.heap.size, 0, none⟩) 0 G) ?_ (.inr (.inr ⟨0, m, G, 1, rfl, rfl, Nat.zero_le _, hge, by simp only [osize]; rw [Nat.mul_one]; exact Nat.le_of_eq hsz.symm⟩))
          · exact ⟨_, _, rfl, (Go.Abs.wf_drew g w).trans key.wf, key.heap, key.vr, key.fok⟩
          · have hw := wf_newObj hHd (.cells (([] : List Value).toArray ++ Builtin.zeroCells zv.cells m ++ Builtin.zeroCells zv.cells (G - m)) (ρ.t 25))
            refine ⟨_, _, (0, 0), by rw [rho_new]; exact heap_alloc_new _ _, ⟨by rw [List.length_replicate]; exact Nat.le_trans hge (Nat.le_of_eq hsz.symm), by simp [Gh.newObj, osize]⟩, .inl rfl, fun c hc => by rw [List.eq_of_mem_replicate hc]; exact hzcell, fun j c v hc hv => ?_⟩
            have e1 : c = z := List.eq_of_mem_replicate (List.mem_of_getElem? hc)
            have e2 : v = zv := hall j v hv
            subst e1; subst e2
            exact ⟨(hzv _ _).1, FOK.triv (hzv g w).2⟩

end Go.Proofs.YtoimlfaiibadgaaDoor
