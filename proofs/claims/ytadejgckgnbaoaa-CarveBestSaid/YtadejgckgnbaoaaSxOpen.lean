/- What arguments read as: typed values. -/
import Derived.Test.YtadejgckgnbaoaaSxPost
namespace Go.Sx
open Go
set_option linter.unusedVariables false

section
variable {H : Type} {enc : TypeId × Value → H} {P : Program} {w : World}

/-- Whatever reads as a value of the type, is the cells of a typed value. -/
def Opens (enc : TypeId × Value → H) (P : Program) (w : World) (t : TypeId) {α : Type} (f : α → List D) (wf : α → Prop) : Prop :=
  ∀ (fuel : Nat) (cs : List Value) (x : DataW H × List MemPlace), DataW.trod enc P w 0 (fun _ => true) true fuel t cs = some x → ∃ v : α, wf v ∧ RDL (fun b => b < w.heap.size) w (f v) cs

theorem rdl_one {Z : Nat → Prop} {d : D} {c : Value} (h1 : one c) (h : RD Z w d c) : RDL Z w [d] [c] := by
  refine ⟨rfl, fun j x c' hx hc => ?_⟩
  cases j with
  | zero => simp at hx hc; subst hx; subst hc; exact ⟨h1, h⟩
  | succ j => simp at hx

theorem opens_int {t : TypeId} {k : IntKind} (ht : P.underlying t = some (.int k)) : Opens enc P w t (fun n : Int => [D.v (.int k n)]) (fun n => (Lit.int k n).wf = true) := by
  intro fuel cs x h
  cases fuel with
  | zero => simp [DataW.trod] at h
  | succ fuel =>
    unfold DataW.trod at h
    rw [ht] at h
    rcases cs with _ | ⟨c, _ | ⟨d, cs⟩⟩
    · simp at h
    · cases c with
      | int k' n =>
        simp only [Option.ite_none_right_eq_some] at h
        obtain ⟨⟨rfl, h2⟩, _⟩ := h
        exact ⟨n, h2, rdl_one rfl (.v _ rfl)⟩
      | _ => simp at h
    · cases c <;> simp at h
theorem opens_bool {t : TypeId} (ht : P.underlying t = some .bool) : Opens enc P w t (fun b : Bool => [D.v (.bool b)]) (fun _ => True) := by
  intro fuel cs x h
  cases fuel with
  | zero => simp [DataW.trod] at h
  | succ fuel =>
    unfold DataW.trod at h
    rw [ht] at h
    rcases cs with _ | ⟨c, _ | ⟨d, cs⟩⟩
    · simp at h
    · cases c with
      | bool b => exact ⟨b, trivial, rdl_one rfl (.v _ rfl)⟩
      | _ => simp at h
    · cases c <;> simp at h
end
end Go.Sx
namespace Go.Sx
open Go
theorem mapM_pick {α β : Type} {g : Nat → Option β} {R : Nat → α → Prop} : ∀ (n s : Nat) (l : List β), (List.range' s n).mapM g = some l → (∀ i y, s ≤ i → i < s + n → g i = some y → ∃ v, R i v) →
    ∃ vs : List α, vs.length = n ∧ ∀ (i : Nat) v, vs[i]? = some v → R (s + i) v := by
  intro n
  induction n with
  | zero => intro s l _ _; exact ⟨[], rfl, fun i v h => by simp at h⟩
  | succ n ih =>
    intro s l h hg
    rw [List.range'_succ, List.mapM_cons] at h
    simp only [Option.bind_eq_bind, Option.bind_eq_some_iff, Option.pure_def, Option.some.injEq] at h
    obtain ⟨y, h1, ys, h2, _⟩ := h
    obtain ⟨v, hv⟩ := hg s y (Nat.le_refl _) (by omega) h1
    obtain ⟨vs, h3, h4⟩ := ih (s + 1) ys h2 (fun i y hi hi' => hg i y (by omega) (by omega))
    refine ⟨v :: vs, by simp [h3], fun i u hu => ?_⟩
    cases i with
    | zero => simp at hu; subst hu; exact hv
    | succ i =>
      simp only [List.getElem?_cons_succ] at hu
      have := h4 i u hu
      rwa [show s + (i + 1) = s + 1 + i by omega]
end Go.Sx
namespace Go.Sx
open Go
theorem mapM_get {β : Type} {g : Nat → Option β} : ∀ (n s : Nat) (l : List β), (List.range' s n).mapM g = some l → l.length = n ∧ ∀ i, i < n → g (s + i) = l[i]? := by
  intro n
  induction n with
  | zero => intro s l h; simp at h; subst h; exact ⟨rfl, fun i h => by omega⟩
  | succ n ih =>
    intro s l h
    rw [List.range'_succ, List.mapM_cons] at h
    simp only [Option.bind_eq_bind, Option.bind_eq_some_iff, Option.pure_def, Option.some.injEq] at h
    obtain ⟨y, h1, ys, h2, rfl⟩ := h
    obtain ⟨h3, h4⟩ := ih (s + 1) ys h2
    refine ⟨by simp [h3], fun i hi => ?_⟩
    cases i with
    | zero => simpa using h1
    | succ i =>
      rw [List.getElem?_cons_succ, ← h4 i (by omega)]
      congr 1; omega

theorem cell_lt {w : World} {a : Addr} {v : Value} (h : w.cell? a = some v) : a.block < w.heap.size := by
  unfold World.cell? at h
  cases ho : w.heap[a.block]? with
  | none => simp [ho] at h
  | some o => exact (Array.getElem?_eq_some_iff.1 ho).1

section
variable {H : Type} {enc : TypeId × Value → H} {P : Program} {w : World}
theorem opens_slice {t e sz : Nat} (ht : P.underlying t = some (.slice e)) (hc : P.cellsOf e = sz) (hsz : 0 < sz) {α : Type} {f : α → List D} {wf : α → Prop} (hf : ∀ x, (f x).length = sz) (he : Opens enc P w e f wf) :
    Opens enc P w t (fun xs : List α => [D.list false sz xs.length (xs.flatMap f)]) (fun xs => (∀ x ∈ xs, wf x) ∧ xs.length ≤ maxLen) := by
  intro fuel cs x h
  cases fuel with
  | zero => simp [DataW.trod] at h
  | succ fuel =>
    unfold DataW.trod at h
    rw [ht] at h
    rcases cs with _ | ⟨c, _ | ⟨d, cs⟩⟩
    · simp at h
    · cases c with
      | slice a len cap =>
        cases a with
        | none =>
          cases len <;> cases cap <;> simp at h
          exact ⟨[], ⟨fun x hx => by simp at hx, Nat.zero_le _⟩, rdl_one rfl (.list0 _ _ _ _ (by simp))⟩
        | some a =>
          simp only [Option.ite_none_right_eq_some, Option.bind_eq_some_iff] at h
          obtain ⟨⟨_, h1, h2⟩, elems, h3, _⟩ := h
          rw [List.range_eq_range'] at h3
          obtain ⟨vs, g1, g2⟩ := mapM_pick (R := fun i v => wf v ∧ ∃ rc : List Value, rc.length = sz ∧ (∀ k, k < sz → w.cell? ((a.add (i * sz)).add k) = rc[k]?) ∧ RDL (fun b => b < w.heap.size) w (f v) rc) len 0 elems h3 (by
            intro i y _ hi hy
            simp only [Option.bind_eq_some_iff] at hy
            obtain ⟨rc, k1, k2⟩ := hy
            unfold World.cells? at k1
            rw [hc] at k1
            simp only [Nat.zero_le, if_true] at k1
            rw [List.range_eq_range'] at k1
            obtain ⟨k3, k4⟩ := mapM_get sz 0 rc k1
            obtain ⟨v, k5, k6⟩ := he fuel rc y k2
            exact ⟨v, k5, rc, k3, fun k hk => by simpa using k4 k hk, k6⟩)
          refine ⟨vs, ⟨fun v hv => ?_, by omega⟩, rdl_one rfl ?_⟩
          · obtain ⟨i, hi⟩ := List.mem_iff_getElem?.1 hv
            exact (g2 i v hi).1
          · cases len with
            | zero => 
              have : vs = [] := List.length_eq_zero_iff.1 g1
              subst this
              exact .list0 _ _ _ _ (by simp)
            | succ n =>
              rw [show vs.length = n + 1 from g1]
              have hlen : (vs.flatMap f).length = (n + 1) * sz := by rw [flatMap_len f sz hf, g1]
              have key : ∀ j, j < (n + 1) * sz → ∃ v rc, vs[j / sz]? = some v ∧ rc.length = sz ∧ (vs.flatMap f)[j]? = (f v)[j % sz]? ∧ w.cell? (a.add j) = rc[j % sz]? ∧ RDL (fun b => b < w.heap.size) w (f v) rc := by
                intro j hj
                have hq : j / sz < vs.length := by rw [g1]; exact (Nat.div_lt_iff_lt_mul hsz).2 hj
                have hv : vs[j / sz]? = some vs[j / sz] := List.getElem?_eq_getElem hq
                obtain ⟨_, rc, k1, k2, k3⟩ := g2 _ _ hv
                have hm : j % sz < sz := Nat.mod_lt _ hsz
                refine ⟨vs[j / sz], rc, hv, k1, ?_, ?_, k3⟩
                · rw [← flatMap_at hf hv, List.getElem?_take, if_pos hm, List.getElem?_drop, Nat.div_add_mod' j sz]
                · have := k2 (j % sz) hm
                  rw [Nat.zero_add, add_add, Nat.div_add_mod' j sz] at this
                  exact this
              have cellv : ∀ j, j < (vs.flatMap f).length → ∃ c, w.cell? (a.add j) = some c ∧ one c ∧ ∀ x, (vs.flatMap f)[j]? = some x → RD (fun b => b < w.heap.size) w x c := by
                intro j hj
                obtain ⟨v, rc, k1, k2, k3, k4, k5⟩ := key j (by omega)
                have hm : j % sz < rc.length := by rw [k2]; exact Nat.mod_lt _ hsz
                have hm2 : j % sz < (f v).length := by rw [hf]; exact Nat.mod_lt _ hsz
                have hx : (f v)[j % sz]? = some ((f v)[j % sz]'hm2) := List.getElem?_eq_getElem _
                have hcc : rc[j % sz]? = some rc[j % sz] := List.getElem?_eq_getElem hm
                obtain ⟨o1, o2⟩ := k5.2 _ _ _ hx hcc
                exact ⟨_, k4.trans hcc, o1, fun x hx' => by rw [k3, hx] at hx'; simp at hx'; subst hx'; exact o2⟩
              have hpos : 0 < (vs.flatMap f).length := by rw [hlen]; exact Nat.mul_pos (Nat.succ_pos _) hsz
              refine .list false sz (n + 1) _ a cap (fun j => (w.cell? (a.add j)).getD undef) (Nat.succ_pos _) hlen ?_ h1 (by simp) ?_ ?_ ?_
              · obtain ⟨c, c1, _⟩ := cellv 0 hpos
                have := cell_lt c1
                rwa [add_block] at this
              · intro j hj; obtain ⟨c, c1, _⟩ := cellv j hj; rw [c1]; rfl
              · intro j hj; obtain ⟨c, c1, c2, _⟩ := cellv j hj; rw [c1]; exact c2
              · intro j x hx
                obtain ⟨c, c1, _, c3⟩ := cellv j (List.getElem?_eq_some_iff.1 hx).1
                show RD _ w x ((w.cell? (a.add j)).getD undef)
                rw [c1]; exact c3 x hx
      | _ => simp at h
    · cases c <;> simp at h
end
end Go.Sx
namespace Go.Sx
open Go
section
variable {H : Type} {enc : TypeId × Value → H} {P : Program} {w : World}
theorem rdl_append {Z : Nat → Prop} {ds ds' : List D} {cs cs' : List Value} (h : RDL Z w ds cs) (h' : RDL Z w ds' cs') : RDL Z w (ds ++ ds') (cs ++ cs') := by
  refine ⟨by simp [h.1, h'.1], fun j x c hx hc => ?_⟩
  rw [List.getElem?_append] at hx hc
  rw [h.1] at hc
  split at hx
  · rename_i hj
    rw [if_pos hj] at hc
    exact h.2 j x c hx hc
  · rename_i hj
    rw [if_neg hj] at hc
    exact h'.2 _ x c hx hc

/-- Fields from an offset on, n cells in all. -/
def OpensF (enc : TypeId × Value → H) (P : Program) (w : World) (n : Nat) (fs : List Field) (off : Nat) {α : Type} (f : α → List D) (wf : α → Prop) : Prop :=
  ∀ (fuel : Nat) (cs : List Value) (ys : List (DataW H × List MemPlace)), cs.length = n → fs.mapM (fun fd => DataW.trod enc P w 0 (fun _ => true) true fuel fd.type ((cs.drop fd.offset).take (P.cellsOf fd.type))) = some ys →
    ∃ v : α, wf v ∧ RDL (fun b => b < w.heap.size) w (f v) (cs.drop off)
theorem opensF_nil {n : Nat} : OpensF enc P w n [] n (fun _ : Unit => []) (fun _ => True) := by
  intro fuel cs ys hn _
  exact ⟨(), trivial, by simp [RDL, ← hn]⟩
theorem opensF_cons {n : Nat} {fd : Field} {fs : List Field} {off sz : Nat} {α β : Type} {f : α → List D} {g : β → List D} {wf : α → Prop} {wg : β → Prop} (ho : fd.offset = off) (hc : P.cellsOf fd.type = sz) (h1 : Opens enc P w fd.type f wf)
    (h2 : OpensF enc P w n fs (off + sz) g wg) : OpensF enc P w n (fd :: fs) off (fun q : α × β => f q.1 ++ g q.2) (fun q => wf q.1 ∧ wg q.2) := by
  intro fuel cs ys hn h
  rw [List.mapM_cons] at h
  simp only [Option.bind_eq_bind, Option.bind_eq_some_iff, Option.pure_def, Option.some.injEq] at h
  obtain ⟨y, k1, zs, k2, _⟩ := h
  rw [ho, hc] at k1
  obtain ⟨v, a1, a2⟩ := h1 fuel _ y k1
  obtain ⟨u, b1, b2⟩ := h2 fuel cs zs hn k2
  refine ⟨(v, u), ⟨a1, b1⟩, ?_⟩
  have := rdl_append a2 b2
  rwa [← List.drop_drop, List.take_append_drop] at this
theorem opens_struct {t n : Nat} {fs : Array Field} (ht : P.underlying t = some (.struct fs)) (hn : P.cellsOf t = n) {α β : Type} {f : α → List D} {wf : α → Prop} (h1 : OpensF enc P w n fs.toList 0 f wf) (mk : α → β) (g : β → List D) (wg : β → Prop)
    (hg : ∀ v, g (mk v) = f v) (hw : ∀ v, wf v → wg (mk v)) : Opens enc P w t g wg := by
  intro fuel cs x h
  cases fuel with
  | zero => simp [DataW.trod] at h
  | succ fuel =>
    unfold DataW.trod at h
    rw [ht] at h
    simp only [Option.ite_none_right_eq_some, Option.map_eq_some_iff] at h
    obtain ⟨hl, xs, k1, _⟩ := h
    rw [hn] at hl
    obtain ⟨v, a1, a2⟩ := h1 fuel cs xs hl k1
    exact ⟨mk v, hw v a1, by rw [hg]; simpa using a2⟩
end
end Go.Sx
namespace Go.Sx
open Go
section
variable {P : Program} {w : World}
theorem rd_agg {Z : Nat → Prop} {ds : List D} {arr : Array Value} (h : RDL Z w ds arr.toList) : RD Z w (.agg ds) (.agg arr) := by
  have hsz : arr.size = ds.length := by simpa using h.1
  have hget : ∀ j, j < arr.size → arr[j]? = some (arr.getD j undef) := fun j hj => by
    rw [Array.getElem?_eq_getElem hj, Array.getD_eq_getD_getElem?, Array.getElem?_eq_getElem hj]; rfl
  refine .agg ds arr (fun j => arr.getD j undef) hsz hget (fun j hj => ?_) (fun j x hx => ?_)
  · have hx : ds[j]? = some ds[j] := List.getElem?_eq_getElem hj
    exact (h.2 j _ _ hx (by rw [Array.getElem?_toList]; exact hget j (by omega))).1
  · have hj : j < arr.size := by rw [hsz]; exact (List.getElem?_eq_some_iff.1 hx).1
    exact (h.2 j x _ hx (by rw [Array.getElem?_toList]; exact hget j hj)).2
theorem PCall.toldArgs {f : FuncId} {args : List D} {r : Value} {cs : Array Value} (h : PCall P f args (.d (.v r))) (hl : cs.size = args.length) (ha : ∀ (j : Nat) x c, args[j]? = some x → cs[j]? = some c → RD (fun b => b < w.heap.size) w x c) : Told P f cs w r := by
  refine (h.run (fun b => b < w.heap.size) w cs (fun _ h => h) hl ha).mono ?_
  rintro e w' ⟨c, Z', rfl, hg, hr⟩
  exact ⟨by rw [hr.lit], _, _, hg⟩
end
end Go.Sx
namespace Go.Sx
open Go
section
variable {H : Type} {enc : TypeId × Value → H} {P : Program} {w : World}
theorem rdl_flat {Z : Nat → Prop} {α : Type} {f : α → List D} {sz : Nat} : ∀ (vs : List α) (cs : List Value), cs.length = vs.length * sz → (∀ (i : Nat) v, vs[i]? = some v → RDL Z w (f v) ((cs.drop (i * sz)).take sz)) → RDL Z w (vs.flatMap f) cs := by
  intro vs
  induction vs with
  | nil => intro cs h _; have : cs = [] := List.length_eq_zero_iff.1 (by simpa using h); subst this; exact ⟨rfl, fun j x c hx => by simp at hx⟩
  | cons v vs ih =>
    intro cs h hv
    rw [List.flatMap_cons, ← List.take_append_drop sz cs]
    refine rdl_append ?_ (ih _ ?_ fun i u hu => ?_)
    · simpa using hv 0 v rfl
    · rw [List.length_drop, h, List.length_cons, Nat.succ_mul]; omega
    · have := hv (i + 1) u (by simpa using hu)
      rwa [List.drop_drop, show sz + i * sz = (i + 1) * sz by rw [Nat.succ_mul]; omega]
theorem opens_array {t e n sz m : Nat} (ht : P.underlying t = some (.array n e)) (hc : P.cellsOf e = sz) (hn : P.cellsOf t = m) (hm : m = n * sz) {α β : Type} {f : α → List D} {wf : α → Prop} (he : Opens enc P w e f wf)
    (mk : List α → β) (g : β → List D) (wg : β → Prop) (hg : ∀ vs : List α, vs.length = n → g (mk vs) = vs.flatMap f) (hw : ∀ vs : List α, vs.length = n → (∀ v ∈ vs, wf v) → wg (mk vs)) : Opens enc P w t g wg := by
  intro fuel cs x h
  cases fuel with
  | zero => simp [DataW.trod] at h
  | succ fuel =>
    unfold DataW.trod at h
    rw [ht] at h
    simp only [Option.ite_none_right_eq_some, Option.map_eq_some_iff] at h
    obtain ⟨hl, xs, k1, _⟩ := h
    rw [hc, List.range_eq_range'] at k1
    obtain ⟨vs, g1, g2⟩ := mapM_pick (R := fun i v => wf v ∧ RDL (fun b => b < w.heap.size) w (f v) ((cs.drop (i * sz)).take sz)) n 0 xs k1 (fun i y _ _ hy => he fuel _ y hy)
    refine ⟨mk vs, hw vs g1 fun v hv => ?_, ?_⟩
    · obtain ⟨i, hi⟩ := List.mem_iff_getElem?.1 hv
      exact (g2 i v hi).1
    · rw [hg vs g1]
      exact rdl_flat vs cs (by rw [hl, hn, hm, g1]) fun i v hv => by simpa using (g2 i v hv).2
end
end Go.Sx
