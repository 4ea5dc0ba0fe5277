/- A law's promise from what its code computes of typed arguments. -/
import Derived.Test.YtadejgckgnbaoaaSxOpen
import Derived.WideKeyArgs
import Derived.Handed
namespace Go.Sx
open Go Go.ChangeShapes Go.WideShapes Go.ChangeAt Go.RowKit
set_option linter.unusedVariables false

section
variable {H : Type} {enc : TypeId × Value → H} {P : Program} {w : World}

/-- Whatever argument reads as a value of the type, is a typed value. -/
def ArgOpens (enc : TypeId × Value → H) (P : Program) (w : World) (t : TypeId) {α : Type} (g : α → D) (wf : α → Prop) : Prop :=
  ∀ (base : Nat) (v : Value) (d : DataW H) (ps : List MemPlace), Value.okWide P w .any base t v → DataW.Trod enc P w 0 (fun _ => true) true t v d ps → ∃ x, wf x ∧ RD (fun b => b < w.heap.size) w (g x) v

theorem arg_one {t : TypeId} {α : Type} {g : α → D} {wf : α → Prop} {u : TypeDesc} (ht : P.underlying t = some u) (hn : (match u with | .struct _ => false | .array _ _ => false | _ => true) = true) (h : Opens enc P w t (fun x => [g x]) wf) : ArgOpens enc P w t g wf := by
  intro base v d ps hv hd
  obtain ⟨fuel, hf⟩ := hd
  obtain ⟨x, hx, hr⟩ := h fuel _ _ hf
  refine ⟨x, hx, ?_⟩
  have hna : ∀ cs, v ≠ .agg cs := by
    rintro cs rfl
    cases u <;> simp_all [Value.okWide, Cell.okWide, Cell.ok]
  have hc : v.cells = #[v] := by
    cases v <;> first | rfl | exact absurd rfl (hna _)
  rw [hc] at hr
  exact (hr.2 0 _ _ rfl rfl).2
theorem arg_agg {t : TypeId} {α : Type} {f : α → List D} {wf : α → Prop} (ht : (∃ fs, P.underlying t = some (.struct fs)) ∨ ∃ n e, P.underlying t = some (.array n e)) (h : Opens enc P w t f wf) : ArgOpens enc P w t (fun x => .agg (f x)) wf := by
  intro base v d ps hv hd
  obtain ⟨fuel, hf⟩ := hd
  obtain ⟨x, hx, hr⟩ := h fuel _ _ hf
  refine ⟨x, hx, ?_⟩
  have : ∃ cs, v = .agg cs := by
    rcases ht with ⟨fs, ht⟩ | ⟨n, e, ht⟩
    · simp only [Value.okWide, ht] at hv; obtain ⟨cs, rfl, _⟩ := hv; exact ⟨cs, rfl⟩
    · simp only [Value.okWide, ht] at hv; obtain ⟨cs, rfl, _⟩ := hv; exact ⟨cs, rfl⟩
  obtain ⟨cs, rfl⟩ := this
  exact rd_agg hr

/-- Arguments, one behind another. -/
def ArgsOpen (enc : TypeId × Value → H) (P : Program) (w : World) (ts : List TypeId) {α : Type} (f : α → List D) (wf : α → Prop) : Prop :=
  ∀ (base : Nat) (vs : List Value) (ds : List (DataW H)) (ps : List MemPlace), (∀ (j : Nat) t v, ts[j]? = some t → vs[j]? = some v → Value.okWide P w .any base t v) →
    DataW.TrodAll enc P w 0 (fun _ => true) true ts vs ds ps → ∃ x, wf x ∧ vs.length = (f x).length ∧ ∀ (j : Nat) y c, (f x)[j]? = some y → vs[j]? = some c → RD (fun b => b < w.heap.size) w y c
theorem args_nil : ArgsOpen enc P w [] (fun _ : Unit => []) (fun _ => True) := by
  intro base vs ds ps _ h
  cases vs <;> cases ds <;> simp_all [DataW.TrodAll]
theorem args_cons {t : TypeId} {ts : List TypeId} {α β : Type} {g : α → D} {f : β → List D} {wg : α → Prop} {wf : β → Prop} (h1 : ArgOpens enc P w t g wg) (h2 : ArgsOpen enc P w ts f wf) : ArgsOpen enc P w (t :: ts) (fun q : α × β => g q.1 :: f q.2) (fun q => wg q.1 ∧ wf q.2) := by
  intro base vs ds ps hv h
  rcases vs with _ | ⟨v, vs⟩
  · simp [DataW.TrodAll] at h
  rcases ds with _ | ⟨d, ds⟩
  · simp [DataW.TrodAll] at h
  obtain ⟨p, q, k1, k2, _⟩ := h
  obtain ⟨x, a1, a2⟩ := h1 base v d p (hv 0 t v rfl rfl) k1
  obtain ⟨y, b1, b2, b3⟩ := h2 base vs ds q (fun j t v ht hv' => hv (j + 1) t v (by simpa using ht) (by simpa using hv')) k2
  refine ⟨(x, y), ⟨a1, b1⟩, by simp [b2], fun j z c hz hc => ?_⟩
  cases j with
  | zero => simp at hz hc; subst hz; subst hc; exact a2
  | succ j => exact b3 j z c (by simpa using hz) (by simpa using hc)

theorem trodAll_stays (hl : laidOutB P = true) {W W' : World} {sp' : Nat → Bool} : ∀ {ts : List TypeId} {vs : List Value} {ds : List (DataW H)} {ps : List MemPlace}, (∀ t ∈ ts, (P.readableRec t && decide (t < P.types.size)) = true) →
    DataW.TrodAll enc P W 0 (fun _ => true) true ts vs ds ps → (∀ p ∈ ps, W.sameAt W' p) → (∀ p ∈ ps, sp' p.block = true) → DataW.TrodAll enc P W' 0 sp' true ts vs ds ps := by
  intro ts
  induction ts with
  | nil => intro vs ds ps _ h _ _; cases vs <;> cases ds <;> simp_all [DataW.TrodAll]
  | cons t ts ih =>
    intro vs ds ps ht h h1 h2
    rcases vs with _ | ⟨v, vs⟩
    · simp [DataW.TrodAll] at h
    rcases ds with _ | ⟨d, ds⟩
    · simp [DataW.TrodAll] at h
    obtain ⟨p, q, k1, k2, rfl⟩ := h
    have := ht t (by simp)
    simp only [Bool.and_eq_true, decide_eq_true_eq] at this
    exact ⟨p, q, WideElems.Trod_stays hl this.1 this.2 k1 (fun x hx => h1 x (by simp [hx])) (fun x hx => h2 x (by simp [hx])), ih (fun t h => ht t (by simp [h])) k2 (fun x hx => h1 x (by simp [hx])) (fun x hx => h2 x (by simp [hx])), rfl⟩
theorem trodAll_len {W : World} : ∀ {ts : List TypeId} {vs : List Value} {ds : List (DataW H)} {ps : List MemPlace}, DataW.TrodAll enc P W 0 (fun _ => true) true ts vs ds ps → ds.length = ts.length := by
  intro ts
  induction ts with
  | nil => intro vs ds ps h; cases vs <;> cases ds <;> simp_all [DataW.TrodAll]
  | cons t ts ih =>
    intro vs ds ps h
    rcases vs with _ | ⟨v, vs⟩
    · simp [DataW.TrodAll] at h
    rcases ds with _ | ⟨d, ds⟩
    · simp [DataW.TrodAll] at h
    obtain ⟨p, q, k1, k2, rfl⟩ := h
    simp [ih k2]
theorem Grow.below {Z Z' : Nat → Prop} {w w' : World} (h : Grow Z w Z' w') : Below w.heap.size w w' := ⟨h.os, h.tape, h.output, h.size, h.heap⟩

theorem lawPost {fid : FuncId} {f : Func} {s : ChangeSpec} {α : Type} {g : α → List D} {wf : α → Prop} {tb : TypeId} {W : World} {base : Nat} {args : Array Value} {ds gs : List (DataW H)} {before : List MemPlace}
    (hl : laidOutB P = true) (hts : f.params.toList.all (fun t => P.readableRec t && decide (t < P.types.size)) = true) (hvars : s.vars = []) (hrt : f.resultTypes = #[tb]) (htb : P.underlying tb = some .bool)
    (hs : ∀ ds : List (DataW H), ds.length = f.params.size → s.fn H ds = { results := [.lit (.bool true)], args := ds })
    (hopen : ArgsOpen enc P W f.params.toList g wf) (hcall : ∀ x, wf x → PCall P fid (g x) (.d (.v (.bool true))))
    (hval : ∀ (j : Nat) t v, f.params[j]? = some t → args[j]? = some v → Value.okWide P W .any base t v)
    (hW : DataW.Whole enc P f.params.toList s.vars false W args.toList ds gs before) :
    Calls P fid args W fun e W' => ∃ v, e = .returned v ∧ s.post enc P f false true false false W args v W' := by
  have hW' := hW
  obtain ⟨p, q, hA, hV, rfl, hfz, hnd⟩ := hW
  rw [hvars] at hV
  obtain ⟨rfl, rfl⟩ := trodVars_none hV
  obtain ⟨x, hx, hlen, hrd⟩ := hopen base args.toList ds p (fun j t v ht hv => hval j t v (by simpa using ht) (by simpa using hv)) hA
  have hlt := hW'.lt
  have told := PCall.toldArgs (w := W) (hcall x hx) (by simpa using hlen) (fun j y c hy hc => hrd j y c hy (by simpa using hc))
  refine Calls.mono told fun e W' ⟨he, Z, Z', hg⟩ => ?_
  subst he
  have hlen2 : ds.length = f.params.size := by simpa using trodAll_len hA
  refine ⟨_, rfl, post_of_grow (pa := p) (pv := []) hW' ?_ ?_ ?_ rfl hg ?_⟩
  · intro b sp hd
    rw [List.append_nil, hs ds hlen2, hrt]
    exact trodAll_cons_mk (shut_bool htb _) trodAll_mk0
  · intro sp hsp
    rw [List.append_nil, hs ds hlen2]
    exact trodAll_stays hl (fun t ht => List.all_eq_true.1 hts t ht) hA (fun y hy => hg.below.same (hlt y (by simp [hy]))) (fun y hy => hsp y (by simp [hy]))
  · intro sp hsp
    rw [List.append_nil, hs ds hlen2, hvars]
    exact rfl
  · exact ok_one hrt rfl (okWide_bool_mk htb _)
end
end Go.Sx
namespace Go.Sx
open Go
section
variable {H : Type} {enc : TypeId × Value → H} {P : Program} {w : World}
theorem Opens.mono {t : TypeId} {α : Type} {f : α → List D} {wf wf' : α → Prop} (h : Opens enc P w t f wf) (k : ∀ x, wf x → wf' x) : Opens enc P w t f wf' := by
  intro fuel cs x hx
  obtain ⟨v, h1, h2⟩ := h fuel cs x hx
  exact ⟨v, k v h1, h2⟩
/-- An integer that fits its kind. -/
def Fits (k : IntKind) (n : Int) : Prop := k.min ≤ n ∧ n ≤ k.max
theorem opens_fit {t : TypeId} {k : IntKind} (ht : P.underlying t = some (.int k)) : Opens enc P w t (fun n : Int => [D.v (.int k n)]) (Fits k) :=
  (opens_int ht).mono fun n hn => by simpa [Lit.wf, Fits] using hn
end
theorem Fits.i64 {n : Int} (h : Fits .i64 n) : -9223372036854775808 ≤ n ∧ n ≤ 9223372036854775807 := h
theorem Fits.u8 {n : Int} (h : Fits .u8 n) : 0 ≤ n ∧ n ≤ 255 := h
theorem Fits.u16 {n : Int} (h : Fits .u16 n) : 0 ≤ n ∧ n ≤ 65535 := h
theorem Fits.u32 {n : Int} (h : Fits .u32 n) : 0 ≤ n ∧ n ≤ 4294967295 := h
end Go.Sx
namespace Go.Sx
open Go
section
variable {H : Type} {enc : TypeId × Value → H} {P : Program} {w : World}
/-- Types and offsets of a struct's fields. -/
def fieldsOf (P : Program) (t : TypeId) : Array Field := match P.underlying t with | some (.struct fs) => fs | _ => #[]
def tyoff (P : Program) (t : TypeId) : List (TypeId × Nat) := (fieldsOf P t).toList.map fun f => (f.type, f.offset)
def isStruct (P : Program) (t : TypeId) : Bool := match P.underlying t with | some (.struct _) => true | _ => false
theorem isStruct_of {t : TypeId} (h : isStruct P t = true) : P.underlying t = some (.struct (fieldsOf P t)) := by
  unfold isStruct at h
  unfold fieldsOf
  cases hu : P.underlying t with
  | none => rw [hu] at h; cases h
  | some d => cases d <;> rw [hu] at h <;> first | rfl | cases h
def OpensG (enc : TypeId × Value → H) (P : Program) (w : World) (n : Nat) (fs : List (TypeId × Nat)) (off : Nat) {α : Type} (f : α → List D) (wf : α → Prop) : Prop :=
  ∀ (fuel : Nat) (cs : List Value) (ys : List (DataW H × List MemPlace)), cs.length = n → fs.mapM (fun fd => DataW.trod enc P w 0 (fun _ => true) true fuel fd.1 ((cs.drop fd.2).take (P.cellsOf fd.1))) = some ys →
    ∃ v : α, wf v ∧ RDL (fun b => b < w.heap.size) w (f v) (cs.drop off)
theorem opensG_nil {n : Nat} : OpensG enc P w n [] n (fun _ : Unit => []) (fun _ => True) := by
  intro fuel cs ys hn _
  exact ⟨(), trivial, by simp [RDL, ← hn]⟩
theorem opensG_cons {n : Nat} {t : TypeId} {fs : List (TypeId × Nat)} {off sz : Nat} {α β : Type} {f : α → List D} {g : β → List D} {wf : α → Prop} {wg : β → Prop} (hc : P.cellsOf t = sz) (h1 : Opens enc P w t f wf)
    (h2 : OpensG enc P w n fs (off + sz) g wg) : OpensG enc P w n ((t, off) :: fs) off (fun q : α × β => f q.1 ++ g q.2) (fun q => wf q.1 ∧ wg q.2) := by
  intro fuel cs ys hn h
  rw [List.mapM_cons] at h
  simp only [Option.bind_eq_bind, Option.bind_eq_some_iff, Option.pure_def, Option.some.injEq] at h
  obtain ⟨y, k1, zs, k2, _⟩ := h
  rw [hc] at k1
  obtain ⟨v, a1, a2⟩ := h1 fuel _ y k1
  obtain ⟨u, b1, b2⟩ := h2 fuel cs zs hn k2
  refine ⟨(v, u), ⟨a1, b1⟩, ?_⟩
  have := rdl_append a2 b2
  rwa [← List.drop_drop, List.take_append_drop] at this
theorem opens_structG {t n : Nat} {l : List (TypeId × Nat)} (ht : isStruct P t = true) (hl : tyoff P t = l) (hn : P.cellsOf t = n) {α β : Type} {f : α → List D} {wf : α → Prop} (h1 : OpensG enc P w n l 0 f wf) (mk : α → β) (g : β → List D) (wg : β → Prop)
    (hg : ∀ v, g (mk v) = f v) (hw : ∀ v, wf v → wg (mk v)) : Opens enc P w t g wg := by
  intro fuel cs x h
  cases fuel with
  | zero => simp [DataW.trod] at h
  | succ fuel =>
    unfold DataW.trod at h
    rw [isStruct_of ht] at h
    simp only [Option.ite_none_right_eq_some, Option.map_eq_some_iff] at h
    obtain ⟨hl', xs, k1, _⟩ := h
    rw [hn] at hl'
    have k2 : l.mapM (fun fd => DataW.trod enc P w 0 (fun _ => true) true fuel fd.1 ((cs.drop fd.2).take (P.cellsOf fd.1))) = some xs := by
      rw [← hl, tyoff, List.mapM_map]; exact k1
    obtain ⟨v, a1, a2⟩ := h1 fuel cs xs hl' k2
    exact ⟨mk v, hw v a1, by rw [hg]; simpa using a2⟩
theorem arg_struct {t : TypeId} {α : Type} {f : α → List D} {wf : α → Prop} (ht : isStruct P t = true) (h : Opens enc P w t f wf) : ArgOpens enc P w t (fun x => .agg (f x)) wf := arg_agg (.inl ⟨_, isStruct_of ht⟩) h
theorem arg_array {t n e : Nat} {α : Type} {f : α → List D} {wf : α → Prop} (ht : P.underlying t = some (.array n e)) (h : Opens enc P w t f wf) : ArgOpens enc P w t (fun x => .agg (f x)) wf := arg_agg (.inr ⟨_, _, ht⟩) h
end
end Go.Sx
