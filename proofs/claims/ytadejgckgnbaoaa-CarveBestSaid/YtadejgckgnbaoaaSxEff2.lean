/- make and append. -/
import Derived.Test.YtadejgckgnbaoaaSxEff
import Derived.Laws.AppendOwn
namespace Go.Sx
open Go
set_option linter.unusedSimpArgs false
set_option linter.unusedVariables false

theorem flatten_replicate_get {α : Type} (l : List α) : ∀ (m j : Nat), ((List.replicate m l).flatten)[j]? = if j < m * l.length then l[j % l.length]? else none := by
  intro m
  induction m with
  | zero => intro j; simp
  | succ m ih =>
    intro j
    rw [List.replicate_succ, List.flatten_cons, List.getElem?_append]
    split
    · rename_i h
      rw [if_pos (by rw [Nat.add_mul]; omega), Nat.mod_eq_of_lt h]
    · rename_i h
      rw [ih, Nat.mod_eq_sub_mod (Nat.le_of_not_lt h)]
      have : (j - l.length < m * l.length) ↔ (j < (m + 1) * l.length) := by rw [Nat.add_mul]; omega
      simp only [this]

theorem wrap_in {n : Int} (h0 : 0 ≤ n) (h1 : n ≤ 9223372036854775807) : IntKind.i64.wrap n = n := by
  have e : (2 : Int) ^ IntKind.i64.bits = 18446744073709551616 := by decide
  have e2 : (2 : Int) ^ (IntKind.i64.bits - 1) = 9223372036854775808 := by decide
  have es : IntKind.i64.signed = true := rfl
  simp only [IntKind.wrap, e, e2, es, Bool.true_and, decide_eq_true_eq]
  rw [Int.emod_eq_of_lt h0 (by omega)]
  rw [if_neg (by omega)]

section sound
variable {P : Program} {tt : Tab} {bs : Bs} {Z : Nat → Prop} {w : World} {o : Oper} {a : Act} {v : V} {ps : List Prop} {N : Nat} {Γ : Ctx} {T T' : St} {H H' : List O}
variable (hT : Tab.ok P tt)
include hT

theorem make_sound (hW : InvW Γ H bs Z w) (hI : InvT N Γ T bs Z a w) {t : TypeId} {x y : Operand} {i : TI} {h : Hint} (ho : o.op = .makeSlice t x y) (hi : tt.lookup t = some i)
    (he : evMake tt i h T H (getV T x) (getV T y) = some (v, T', H', ps)) (hp : ∀ p ∈ ps, p) : Does P N Γ o a w v T' H' := by
  have hX := getV_sound hI x
  have hY := getV_sound hI y
  generalize getV T x = vx at he hX
  generalize getV T y = vy at he hY
  unfold evMake at he
  split at he
  · rename_i n m
    have ex := hX.lit
    have ey := hY.lit
    split at he
    · rename_i el kk ds hk
      simp only [Option.bind_eq_some_iff] at he
      obtain ⟨it, h1, h2⟩ := he
      simp at h2
      obtain ⟨rfl, rfl, rfl, rfl⟩ := h2
      obtain ⟨rfl, rfl, h0, hb, hm, hds⟩ := hp _ (List.mem_singleton.2 rfl)
      obtain ⟨z, hz1, hz2⟩ := run_zero hT h1 w
      obtain ⟨info, z', g1, g2, g3, g4, g5⟩ := (hT el it h1).info
      have hzl := (hT el it h1).zlen
      have hw1 := wrap_in h0 hm
      have hbz : (it.bytes : Int) * n ≤ 281474976710656 := by rw [Int.mul_comm]; omega
      -- the row
      have hrow : ∃ cs : Array Value, (Instr.makeSlice t (.int .i64 n) (.int .i64 n)).run P w = .ok (.slice (some ⟨w.heap.size, 0, none⟩) n.toNat n.toNat) (w.alloc (.cells cs el)) ∧ cs.size = n.toNat * it.size ∧
          RDL Z w ds cs.toList := by
        have hti : ∀ w, (typeInfo el).run P w = .ok info w := fun w => by simp [typeInfo, g1]
        have hnot : (decide (n < 0) || decide ((info.bytes : Int) * n > 2 ^ 48)) = false := by
          have : ¬ n < 0 := by omega
          have h3 : ¬ ((info.bytes : Int) * n > 2 ^ 48) := by rw [g3]; omega
          simp only [this, h3, decide_false, Bool.or_self]
        refine ⟨(Array.range (n.toNat * it.size)).map ((if n.toNat * it.size = 0 then #[] else z.cells)[· % (if n.toNat * it.size = 0 then #[] else z.cells).size]!), ?_, by simp, ?_⟩
        · simp only [Instr.makeSlice, Sem.run_bind, kind_slice hT hi hk, Result.andThen_ok, asInt, asIntOf, Sem.run_pure, hti, hw1, hnot]
          have h4 : ¬ (n < 0) := by omega
          simp only [h4, decide_false, Bool.false_or, gt_iff_lt, Int.lt_irrefl, Bool.false_eq_true, if_false, run_askRoom, Result.andThen_ok, Sem.run_bind, run_size hT h1, Sem.run_pure]
          by_cases h5 : n.toNat * it.size = 0
          · simp only [h5, if_true, Sem.run_pure, Result.andThen_ok, newRow, Sem.run_bind, run_newObj]
            rfl
          · simp only [h5, if_false, Sem.run_bind, hz1, Sem.run_pure, Result.andThen_ok, newRow, run_newObj]
            rfl
        · rw [hds]
          refine ⟨?_, fun j x c hx hc => ?_⟩
          · simp [List.length_flatten, hzl]
          · rw [flatten_replicate_get] at hx
            simp only [List.length_map, hzl] at hx
            split at hx
            · rename_i hj
              have h5 : n.toNat * it.size ≠ 0 := by omega
              simp only [h5, if_false] at hc
              rw [List.getElem?_map] at hx
              have hzs : z.cells.size = it.size := by rw [← hzl, ← hz2]; simp
              have hmod : j % it.size < it.size := Nat.mod_lt _ (by
                rcases Nat.eq_zero_or_pos it.size with h6 | h6
                · simp [h6] at hj
                · exact h6)
              have hz0 : it.zero[j % it.size]? = some (z.cells[j % it.size]'(by omega)) := by
                rw [← hz2]; simp [hzs, hmod]
              rw [hz0] at hx
              simp at hx
              simp [hj, hzs, hmod] at hc
              subst hx
              have hone := (hT el it h1).ones _ (List.mem_of_getElem? hz0)
              rw [hc] at hone ⊢
              exact ⟨hone, .v _ hone⟩
            · simp at hx
      obtain ⟨cs, hr, hs, hR⟩ := hrow
      have hl : ds.length = cs.size := by have := hR.1; simp at this; omega
      obtain ⟨k1, k2⟩ := new_data hW hI (a := a) (T := T) (ds := ds) (cs := cs) el (by rw [List.take_of_length_le (by simp; omega)]; exact hR) (by omega)
      refine Does.val (c := .slice (some ⟨w.heap.size, 0, none⟩) n.toNat n.toNat) ?_ k1 k2 (.sl it.size _ 0 _ _ _ n.toNat (bs_last hW _) (Nat.le_refl _) (by omega) (by omega))
      simp only [execOp, ho, ex, ey, Sem.run_bind, hr, Result.andThen_ok, Sem.run_pure]
    · simp at he
  · simp at he

omit hT in
theorem only_row (p : Nat → Bool) (n : O) : (n.only p).row = n.row.map (V.onlyL p) := by
  cases n with
  | cells xs => rfl
  | data ds =>
    simp only [O.only, O.row, Option.map_some, onlyL_eq, List.map_map]
    congr 1
  | fixed ds =>
    simp only [O.only, O.row, Option.map_some, onlyL_eq, List.map_map]
    congr 1
  | map kvs => rfl
  | loop st ps as bd N T => rfl

omit hT in
theorem okO.only {bs bs' : Bs} {n : O} {q : Option (Nat × Nat)} (p : Nat → Bool) (h : okO bs Z w n q) (hb : ∀ (i : Nat) (o : Option (Nat × Nat)), p i = true → bs[i]? = some o → bs'[i]? = some o) : okO bs' Z w (n.only p) q := by
  cases n with
  | cells xs =>
    cases q with
    | none => simp [okO] at h; subst h; rfl
    | some q =>
      obtain ⟨b, k⟩ := q
      obtain ⟨cs, t, h1, h2, h3, h4⟩ := h
      simp only [O.only, onlyL_eq]
      refine ⟨cs, t, h1, h2, by simpa using h3, fun j x hx => ?_⟩
      rw [List.getElem?_map, Option.map_eq_some_iff] at hx
      obtain ⟨y, hy, rfl⟩ := hx
      obtain ⟨c, hc, h5, h6⟩ := h4 j y hy
      exact ⟨c, hc, h5, h6.only p hb⟩
  | data ds => simp only [O.only]; cases q <;> exact h
  | fixed ds => simp only [O.only]; cases q <;> exact h
  | map kvs => simp only [O.only]; cases q <;> exact h
  | loop st ps as bd N T =>
    cases q with
    | none => exact h
    | some q =>
      obtain ⟨b, k⟩ := q
      obtain ⟨r, h1, h2, h3, h4, h5, h6, h7⟩ := h
      refine ⟨r, h1, h2, h3, h4, h5, h6, fun i x hx => ?_⟩
      simp only [List.mem_map] at hx
      obtain ⟨⟨j, y⟩, hy, he⟩ := hx
      simp at he
      obtain ⟨rfl, rfl⟩ := he
      exact ⟨(h7 j y hy).1, (h7 j y hy).2.only p hb⟩

omit hT in
theorem InvT.only {bs bs' : Bs} (p : Nat → Bool) (h : InvT N Γ T bs Z a w) (hb : ∀ (i : Nat) (o : Option (Nat × Nat)), p i = true → bs[i]? = some o → bs'[i]? = some o) : InvT N Γ (onlyT p T) bs' Z a w := by
  refine ⟨h.size, h.defers, fun i x hx => ?_⟩
  simp only [onlyT, List.mem_map] at hx
  obtain ⟨⟨j, y⟩, hy, he⟩ := hx
  simp at he
  obtain ⟨rfl, rfl⟩ := he
  exact ⟨(h.rel j y hy).1, (h.rel j y hy).2.only p hb⟩

omit hT in
theorem only_isData (p : Nat → Bool) (o : O) : (o.only p).isData = o.isData := by cases o <;> rfl

omit hT in
theorem InvW.only (p' : Nat → Bool) (h : InvW Γ H bs Z w) : InvW Γ (onlyH p' H) bs Z w where
  lenH := by simp [onlyH, h.lenH]
  objs i o b ho hb := by
    simp only [onlyH, List.getElem?_map, Option.map_eq_some_iff] at ho
    obtain ⟨n, hn, rfl⟩ := ho
    exact (h.objs i n b hn hb).only p' (fun _ _ _ h => h)
  nodup := h.nodup
  disj := h.disj
  lt := h.lt
  zlt := h.zlt
  z0 := h.z0
  fresh := h.fresh
  zfresh := h.zfresh
  size := h.size
  frame := h.frame
  os := h.os
  tape := h.tape
  output := h.output
  pin i p hp := by
    obtain ⟨h1, o, h2, h3⟩ := h.pin i p hp
    exact ⟨h1, o.only p', by simp only [onlyH, List.getElem?_map, h2, Option.map_some], by rw [only_isData]; exact h3⟩

omit hT in
/-- An object goes into a new block; nothing else speaks of it. -/
theorem InvW.move (hW : InvW Γ H bs Z w) {id : Nat} (hid : id < bs.length) (ob : Obj) (n : O) (k : Nat)
    (hn : okO (bs.set id (some (w.heap.size, k))) Z (w.drew.alloc ob) n (some (w.heap.size, k))) (hnc : ∀ o, H[id]? = some o → o.isData = true) :
    InvW Γ ((onlyH (· != id) H).set id n) (bs.set id (some (w.heap.size, k))) Z (w.drew.alloc ob) := by
  have hold : ∀ b, b < w.heap.size → (w.drew.alloc ob).heap[b]? = w.heap[b]? := fun b hb => (Grow.alloc Z w.drew ob).heap b hb
  have hsz : (w.drew.alloc ob).heap.size = w.heap.size + 1 := by simp
  have hcase : ∀ (i : Nat) (b k' : Nat), (bs.set id (some (w.heap.size, k)))[i]? = some (some (b, k')) → (i ≠ id ∧ bs[i]? = some (some (b, k'))) ∨ (i = id ∧ b = w.heap.size) := by
    intro i b k' h
    rw [List.getElem?_set] at h
    split at h
    · rename_i e; subst e
      simp at h
      exact .inr ⟨rfl, h.1.symm⟩
    · rename_i e; exact .inl ⟨fun e' => e e'.symm, h⟩
  constructor
  · simp [onlyH, hW.lenH]
  · intro i o' q ho hq
    rw [List.getElem?_set] at ho hq
    split at ho
    · rename_i e
      subst e
      rw [if_pos rfl, if_pos hid] at hq
      split at ho <;> simp at ho hq
      subst ho; subst hq
      exact hn
    · rename_i e
      rw [if_neg e] at hq
      simp only [onlyH, List.getElem?_map, Option.map_eq_some_iff] at ho
      obtain ⟨n', hn', rfl⟩ := ho
      have h1 := (hW.objs i n' q hn' hq).only (bs' := bs.set id (some (w.heap.size, k))) (· != id) (fun j o hj hb => by
        rw [List.getElem?_set, if_neg (by intro e'; subst e'; simp at hj)]; exact hb)
      exact h1.mono (fun _ _ h => h) (fun _ h => h) (fun b hb => hold b (hW.zlt b hb)) (fun g g' hg => hold g (hW.lt i g g' (hg ▸ hq)))
  · intro i j b k1 k2 hi hj
    rcases hcase i b k1 hi with ⟨_, h1⟩ | ⟨h1, h1'⟩ <;> rcases hcase j b k2 hj with ⟨_, h2⟩ | ⟨h2, h2'⟩
    · exact hW.nodup i j b k1 k2 h1 h2
    · have := hW.lt i b k1 h1; omega
    · have := hW.lt j b k2 h2; omega
    · omega
  · intro i b k1 hi hz
    rcases hcase i b k1 hi with ⟨_, h1⟩ | ⟨h1, h1'⟩
    · exact hW.disj i b k1 h1 hz
    · have := hW.zlt b hz; omega
  · intro i b k1 hi
    rcases hcase i b k1 hi with ⟨_, h1⟩ | ⟨h1, h1'⟩
    · have := hW.lt i b k1 h1; omega
    · omega
  · intro b hb; have := hW.zlt b hb; omega
  · exact hW.z0
  · intro i b k1 hi
    rcases hcase i b k1 hi with ⟨_, h1⟩ | ⟨h1, h1'⟩
    · exact hW.fresh i b k1 h1
    · have := hW.size; left; omega
  · exact hW.zfresh
  · have := hW.size; omega
  · intro b hb hn'; rw [hold b (by have := hW.size; omega)]; exact hW.frame b hb hn'
  · exact hW.os
  · exact hW.tape
  · exact hW.output
  · intro i p hp
    obtain ⟨h1, o, h2, h3⟩ := hW.pin i p hp
    have hne : id ≠ i := fun e => by rw [hnc o (e ▸ h2)] at h3; simp at h3
    exact ⟨by rw [List.getElem?_set, if_neg hne]; exact h1, o.only (· != id), by rw [List.getElem?_set, if_neg hne]; simp only [onlyH, List.getElem?_map, h2, Option.map_some], by rw [only_isData]; exact h3⟩

omit hT in
theorem bs_set_keep {bs : Bs} {id : Nat} {q : Option (Nat × Nat)} (i : Nat) (o : Option (Nat × Nat)) (hi : (i != id) = true) (h : bs[i]? = some o) : (bs.set id q)[i]? = some o := by
  rw [List.getElem?_set, if_neg (by intro e; subst e; simp at hi)]; exact h

omit hT in
theorem RDL.ones {ds : List D} {cs : List Value} (h : RDL Z w ds cs) : ∀ c ∈ cs, c.oneCell' = true := RVL.ones (h.toV (bs := []))

omit hT in
theorem run_append_room' (w : World) (t ty e : TypeId) (i : TypeInfo) (ht : P.underlying t = some (.slice e)) (hi : P.info? e = some i)
    (g sLen sCap : Nat) (cur : Array Value) (te : TypeId) (hg : w.heap[g]? = some (.cells cur te (0, 0)))
    (a : Addr) (m c : Nat) (news : List Value) (hl : news.length = m * i.size) (hnews : ∀ (j : Nat) u, news[j]? = some u → w.cell? (a.add j) = some u) (h1 : ∀ u ∈ news, u.oneCell' = true)
    (hroom : sLen + m ≤ sCap) (hfit : sLen * i.size + news.length ≤ cur.size) :
    (Builtin.append_ #[t, t] ty #[.slice (some ⟨g, 0, none⟩) sLen sCap, .slice (some a) m c]).run P w =
      .ok (.slice (some ⟨g, 0, none⟩) (sLen + m) sCap) (w.setRow g (cur.toList.take (sLen * i.size) ++ news ++ cur.toList.drop (sLen * i.size + news.length)).toArray) := by
  have hf := run_firstCells_some (P := P) w i.size m a m c news hl hnews
  have hst := run_storeCells_at P g (sLen * i.size) te news 0 cur w hg (by simpa using hfit) h1
  simp only [Nat.add_zero] at hst
  simp [Builtin.append_, run_underlying ht, sizeOf, typeInfo, hi, Builtin.lenOf, hroom, hf, addr_add, hst]

theorem append_sound (hW : InvW Γ H bs Z w) (hI : InvT N Γ T bs Z a w) {c : Call} {s x : Operand} {t t' : TypeId} {i : TI} {h : Hint} (ho : o.op = .call c) (hc : c.callee = .builtin .append) (ha : c.args.toList = [s, x])
    (hty : c.argTypes.toList = [t, t']) (htt : t = t') (hi : tt.lookup t = some i) (he : evAppend tt i h T H (getV T s) (getV T x) = some (v, T', H', ps)) (hp : ∀ p ∈ ps, p) : Does P N Γ o a w v T' H' := by
  subst htt
  have hS := getV_sound hI s
  have hX := getV_sound hI x
  generalize getV T s = vs at he hS
  generalize getV T x = vx at he hX
  obtain ⟨callee, ⟨args⟩, ⟨tys⟩⟩ := c
  simp at ha hty hc
  subst ha; subst hty; subst hc
  have hexec : ∀ (r : Value) (w' : World), (Builtin.append_ #[t, t] o.type #[a.eval s, a.eval x]).run P w = .ok r w' → (execOp a.eval o).run P w = .ok (.value r) w' := by
    intro r w' h1
    simp [execOp, ho, resolve, invoke, builtin, h1]
  unfold evAppend at he
  split at he
  · rename_i e id n
    split at he
    · rename_i el kq out xs m src hk hr hsrc
      obtain ⟨hr, hnc⟩ := dataAt_row hr
      have honc : ∀ o, (onlyH (· != id) H)[id]? = some o → o.isData = true := by
        intro o hy
        simp only [onlyH, List.getElem?_map, Option.map_eq_some_iff] at hy
        obtain ⟨q, hq, rfl⟩ := hy
        rw [only_isData]; exact hnc _ hq
      simp only [Option.bind_eq_some_iff] at he
      obtain ⟨it, h1, h2⟩ := he
      split at h2
      · rename_i hcond
        simp at hcond
        obtain ⟨hse, he0⟩ := hcond
        simp at h2
        obtain ⟨rfl, rfl, rfl, rfl⟩ := h2
        obtain ⟨rfl, hxl, hsl, hby, hmx, hout⟩ := hp _ (List.mem_singleton.2 rfl)
        obtain ⟨d, hu, hd2, _⟩ := (hT t i hi).kind
        rw [hk] at hd2
        cases hd2
        obtain ⟨info, z', g1, g2, g3, g4, g5⟩ := (hT el it h1).info
        have hzl := (hT el it h1).zlen
        have hzs : z'.cells.size = e := by rw [← hse, ← hzl, ← g5]; simp
        have his : info.size = e := by rw [g2, hse]
        have houtl : out.length = (n + m) * e := by
          have := congrArg List.length hout
          simp [hxl, hsl] at this
          rw [this, Nat.add_mul]
        have hrun0 := hexec
        -- a row that is written in place, or left
        have stay : ∀ {b k : Nat} {cap : Nat} {w' : World} {cs' : Array Value} {ty : TypeId}, bs[id]? = some (some (b, k)) → n + m ≤ cap → cap * e ≤ k → cap ≤ 9223372036854775807 →
            (execOp a.eval o).run P w = .ok (.value (.slice (some ⟨b, 0, none⟩) (n + m) cap)) w' → (∀ b', b' ≠ b → w'.heap[b']? = w.heap[b']?) → w'.heap.size = w.heap.size → w'.os = w.os → w'.tape = w.tape → w'.output = w.output →
            w'.heap[b]? = some (.cells cs' ty (0, 0)) → cs'.size = k → RDL Z w out (cs'.toList.take out.length) →
            Does P N Γ o a w (.sl e id 0 (n + m)) (onlyT (· != id) T) ((onlyH (· != id) H).set id (.data out)) := by
          intro b k cap w' cs' ty hb hcap hk hm' hrun hoth hsz e1 e2 e3 hbw hks hR
          have hz : ∀ b', Z b' → w'.heap[b']? = w.heap[b']? := fun b' hb' => hoth b' (fun e => by subst e; exact hW.disj id b' k hb hb')
          refine Does.val hrun ((hW.only (· != id)).write hb hoth hsz e1 e2 e3 ?_ (fun ys hys h => by rw [honc ys hys] at h; simp at h)) ((hI.mono (fun _ _ h => h) (fun _ h => h) hz).only (· != id) (fun _ _ _ h => h)) (.sl e id 0 _ b k cap hb hcap (by omega) hm')
          subst hks
          refine okO.ofD hbw ⟨hR.1, fun j x c hx hc => ⟨(hR.2 j x c hx hc).1, (hR.2 j x c hx hc).2.mono (fun _ h => h) hz⟩⟩ ?_
          rw [houtl]
          exact Nat.le_trans (Nat.mul_le_mul_right _ hcap) hk
        have goes : ∀ (cs : List Value) (cap : Nat), id < bs.length → n + m ≤ cap → cap ≤ 9223372036854775807 → RDL Z w out (cs.take out.length) → cs.length = cap * e →
            (execOp a.eval o).run P w = .ok (.value (.slice (some ⟨w.heap.size, 0, none⟩) (n + m) cap)) (w.drew.alloc (.cells cs.toArray el)) →
            Does P N Γ o a w (.sl e id 0 (n + m)) (onlyT (· != id) T) ((onlyH (· != id) H).set id (.data out)) := by
          intro cs cap hid hcap hm' hR hcs hrun
          have hold : ∀ b, Z b → (w.drew.alloc (.cells cs.toArray el)).heap[b]? = w.heap[b]? := fun b hb => (Grow.alloc Z w.drew _).heap b (hW.zlt b hb)
          have hnew : (bs.set id (some (w.heap.size, cs.length)))[id]? = some (some (w.heap.size, cs.length)) := by rw [List.getElem?_set, if_pos rfl, if_pos hid]
          have hle : out.length ≤ cs.length := by rw [houtl, hcs]; exact Nat.mul_le_mul_right _ hcap
          have hok : okO (bs.set id (some (w.heap.size, cs.length))) Z (w.drew.alloc (.cells cs.toArray el)) (.data out) (some (w.heap.size, cs.length)) := by
            have := okO.ofD (bs := bs.set id (some (w.heap.size, cs.length))) (Z := Z) (w := w.drew.alloc (.cells cs.toArray el)) (ds := out) (cs := cs.toArray) (t := el) (b := w.heap.size) (heap_alloc w.drew _)
              ⟨by simpa using hR.1, fun j x c hx hc => by
                have := hR.2 j x c hx (by simpa using hc)
                exact ⟨this.1, this.2.mono (fun _ h => h) hold⟩⟩ (by simpa using hle)
            simpa using this
          refine Does.val hrun (hW.move hid _ _ _ hok hnc) ((hI.only (· != id) (fun i o hi hb => bs_set_keep i o hi hb)).mono (fun _ _ h => h) (fun _ h => h) hold) (.sl e id 0 _ _ _ cap hnew hcap (by omega) hm')
        generalize hes : a.eval s = sv at hS hexec
        generalize hex : a.eval x = xv at hX hexec
        have hid : id < bs.length := by
          cases hS with
          | sl _ _ _ _ b k cap hb => exact (List.getElem?_eq_some_iff.1 hb).1
          | sl0 _ _ hb => exact (List.getElem?_eq_some_iff.1 hb).1
        rcases src_sound hX hsrc hsl with ⟨rfl, rfl, ad, kk, rfl⟩ | ⟨ad, kk, srcC, rfl, hm0, hnews, hR⟩
        · -- nothing is appended
          have hout' : out.map .d = xs := by simpa using hout
          cases hS with
          | sl0 _ _ hb =>
            have hxs := hW.row0 hr hb
            have hout0 : out = [] := by rw [hxs] at hout'; simpa using hout'
            have hrun := hexec _ _ (run_append_none w t o.type el info hu g1 none 0 0 ad kk (Nat.le_refl _))
            subst hout0
            refine Does.val hrun ?_ (hI.only (· != id) (fun _ _ _ h => h)) (.sl0 e id hb)
            have h5 := hW.only (· != id)
            constructor
            · simp [h5.lenH]
            · intro i o' q hi hq
              rw [List.getElem?_set] at hi
              split at hi
              · rename_i e'; subst e'
                split at hi <;> simp at hi
                subst hi
                rw [hb] at hq; simp at hq; subst hq
                rfl
              · exact h5.objs i o' q hi hq
            · exact h5.nodup
            · exact h5.disj
            · exact h5.lt
            · exact h5.zlt
            · exact h5.z0
            · exact h5.fresh
            · exact h5.zfresh
            · exact h5.size
            · exact h5.frame
            · exact h5.os
            · exact h5.tape
            · exact h5.output
            · intro i p hp
              obtain ⟨h1, ys, h2, h3⟩ := h5.pin i p hp
              refine ⟨h1, ys, ?_, h3⟩
              rw [List.getElem?_set, if_neg (fun e => by rw [honc ys (e ▸ h2)] at h3; simp at h3)]; exact h2
          | sl _ _ _ _ b k cap hb hcap hkk hmm =>
            obtain ⟨cs, ty, q1, q2, q3, q4⟩ := hW.row hr hb
            have hrun := hexec _ _ (run_append_none w t o.type el info hu g1 (some ⟨b, 0, none⟩) n cap ad kk hcap)
            refine stay hb (by omega) (by omega) hmm hrun (fun _ _ => rfl) rfl rfl rfl rfl q1 q3 ?_
            have : xs.length = out.length := by rw [← hout']; simp
            rw [this] at q4
            exact RDL.ofMap q4 hout'
        · have hsC : srcC.length = m * info.size := by rw [hR.1, hsl, his]
          have hRV := hR.toV (bs := bs)
          have htake : ∀ (ys zs : List Value), RVL bs Z w xs ys → RDL Z w out ((ys ++ srcC ++ zs).take out.length) := by
            intro ys zs hy
            have h6 := RVL.append hy hRV
            have hlen : (ys ++ srcC).length = out.length := by
              rw [List.length_append, hy.1, hR.1, hxl, hsl, houtl, Nat.add_mul]
            rw [← hlen, List.take_left']
            · exact RDL.ofMap h6 hout
            · rfl
          have hzlen : ∀ q, (Builtin.zeroCells z'.cells q).toList.length = q * e := fun q => by simp [Builtin.zeroCells, hzs]
          cases hS with
          | sl0 _ _ hb =>
            have hxs := hW.row0 hr hb
            subst hxs
            have hrun := run_append_nil (P := P) w t o.type el info z' hu g1 g4 ad m kk srcC hsC hnews hm0 (by omega) (by rw [g3]; rw [Nat.zero_add] at hby; omega)
            have hrun := hexec _ _ hrun
            have hcap := grownCap_ge w m 0 el
            have hmx' := grownCap_le_maxLen w m 0 el (by simp only [maxLen]; omega)
            have e4 : (srcC.toArray ++ Builtin.zeroCells z'.cells (grownCap w m 0 el - m)) = (([] ++ srcC ++ (Builtin.zeroCells z'.cells (grownCap w m 0 el - m)).toList : List Value)).toArray := by simp
            rw [e4] at hrun
            refine goes ([] ++ srcC ++ (Builtin.zeroCells z'.cells (grownCap w m 0 el - m)).toList) (grownCap w m 0 el) hid (by omega) (by simpa only [maxLen] using hmx') (htake [] _ RVL.nil) ?_ (by simpa using hrun)
            rw [List.length_append, List.nil_append, hsC, his, hzlen, ← Nat.add_mul]
            congr 1; omega
          | sl _ _ _ _ b k cap hb hcap hkk hmm =>
            obtain ⟨cs, ty, q1, q2, q3, q4⟩ := hW.row hr hb
            by_cases hroom : n + m ≤ cap
            · have hfit : n * info.size + srcC.length ≤ cs.size := by
                rw [hsC, his, ← Nat.add_mul, q3]
                exact Nat.le_trans (Nat.mul_le_mul_right _ hroom) (by omega)
              have hrun := hexec _ _ (run_append_room' w t o.type el info hu g1 b n cap cs ty q1 ad m kk srcC hsC hnews hR.ones hroom hfit)
              refine stay hb hroom (by omega) hmm hrun (fun b' hne => setRow_other w b b' _ hne) (setRow_size _ _ _) rfl rfl rfl (setRow_heap w b cs _ ty _ q1) ?_ ?_
              · simp only [List.size_toArray, List.length_append, List.length_take, List.length_drop, Array.length_toList]
                omega
              · rw [List.toList_toArray]
                refine htake _ _ ?_
                rw [his, ← hxl]
                exact q4
            · have hold : ∀ (j : Nat) u, (cs.toList.take xs.length)[j]? = some u → w.cell? ((⟨b, 0, none⟩ : Addr).add j) = some u := by
                intro j u hu'
                rw [cell_at q1]
                rw [List.getElem?_take] at hu'
                split at hu'
                · simpa using hu'
                · simp at hu'
              have hrun := run_append_grow (P := P) w t o.type el info z' hu g1 g4 ⟨b, 0, none⟩ n cap (cs.toList.take xs.length) (by rw [q4.1, hxl, his]) hold ad m kk srcC hsC hnews (by omega) (by omega)
                (growslice_fits (by omega) (by rw [g3]; exact hby))
              have hrun := hexec _ _ hrun
              have hcap' := grownCap_ge w (n + m) cap el
              have hmx' := grownCap_le_maxLen w (n + m) cap el (by simp only [maxLen]; omega)
              have e4 : ((cs.toList.take xs.length).toArray ++ srcC.toArray ++ Builtin.zeroCells z'.cells (grownCap w (n + m) cap el - (n + m))) = ((cs.toList.take xs.length ++ srcC ++ (Builtin.zeroCells z'.cells (grownCap w (n + m) cap el - (n + m))).toList : List Value)).toArray := by
                apply Array.ext'
                simp
              rw [e4] at hrun
              refine goes _ (grownCap w (n + m) cap el) hid hcap' (by simpa only [maxLen] using hmx') (htake _ _ q4) ?_ hrun
              rw [List.length_append, List.length_append, q4.1, hxl, hsC, his, hzlen, ← Nat.add_mul, ← Nat.add_mul]
              congr 1; omega
      · simp at h2
    · simp at he
  · simp at he

end sound
end Go.Sx
