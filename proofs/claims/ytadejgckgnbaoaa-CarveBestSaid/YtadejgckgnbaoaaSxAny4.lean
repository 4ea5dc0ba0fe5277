/- Regions that draw their order, with operations in the body that make or write objects: the rule. -/
import Derived.Test.YtadejgckgnbaoaaSxAny3
namespace Go.Sx
open Go
set_option linter.unusedSimpArgs false
set_option linter.unusedVariables false

section
variable {P : Program} {tt : Tab} {rd : Bool} {N fl : Nat} {Γ : Ctx}

theorem stS_from {A : Type} {S : Nat → Bool} {x : Nat} : ∀ (ws : List (List (Nat × A))) (σ : Nat → A) (k : Nat), stS S σ ws k x = σ x ∨ ∃ (j : Nat) (W : List (Nat × A)), ws[j]? = some W ∧ S (k + j) = true ∧ (x, stS S σ ws k x) ∈ W := by
  intro ws
  induction ws with
  | nil => intro σ k; exact .inl rfl
  | cons W ws ih =>
    intro σ k
    simp only [stS]
    rcases ih (if S k = true then updW σ W else σ) (k + 1) with h | ⟨j, W', h1, h2, h3⟩
    · rw [h]
      split
      · rename_i hs
        by_cases hx : inKeys x W
        · obtain ⟨a, ha⟩ := lookup_some hx
          refine .inr ⟨0, W, rfl, by simpa using hs, ?_⟩
          simp only [updW, ha, Option.getD_some]
          clear h ih hx
          induction W with
          | nil => simp at ha
          | cons p W ih =>
            obtain ⟨y, b⟩ := p
            rw [List.lookup_cons] at ha
            split at ha
            · rename_i e; simp at e ha; subst e; subst ha; simp
            · exact List.mem_cons_of_mem _ (ih ha)
        · exact .inl (updW_out hx)
      · exact .inl rfl
    · exact .inr ⟨j + 1, W', by simpa using h1, by rw [show k + (j + 1) = k + 1 + j by omega]; exact h2, h3⟩

theorem evBody_run {dsts : List (Option Tmp)} {n : Nat} {lk0 : Nat → Option V} {f0 : Nat → O} : ∀ (os : List Oper) (hs : List Hint) (lk : Nat → Option V) (H : List O) (lk1 : Nat → Option V) (H1 : List O) (ps : List Prop) (rs : List BRec) (preS : List (List (Nat × Option V))) (preO : List (List (Nat × O))),
    evBody P tt N dsts os hs lk H = some (lk1, H1, ps, rs) → lk = stS (fun _ => true) lk0 preS 0 → H = listOf n (stS (fun _ => true) f0 preO 0) → preS.length = preO.length →
    rs.length = os.length ∧ lk1 = stS (fun _ => true) lk0 (preS ++ rs.map (·.sw)) 0 ∧ H1 = listOf n (stS (fun _ => true) f0 (preO ++ rs.map (·.ow)) 0) ∧
      ∀ (i : Nat) o, os[i]? = some o → ∃ q h qs, rs[i]? = some q ∧ (∀ p ∈ qs, p ∈ ps) ∧ q.foot = footOf o h (stS (fun _ => true) lk0 ((preS ++ rs.map (·.sw)).take (preS.length + i)) 0) ∧ q.res = resOf h ∧
        evB P tt N dsts o h (stS (fun _ => true) lk0 ((preS ++ rs.map (·.sw)).take (preS.length + i)) 0) (listOf n (stS (fun _ => true) f0 ((preO ++ rs.map (·.ow)).take (preS.length + i)) 0)) = some (q.sw, q.ow, qs) := by
  intro os
  induction os with
  | nil =>
    intro hs lk H lk1 H1 ps rs preS preO he h1 h2 _
    simp [evBody] at he
    obtain ⟨rfl, rfl, rfl, rfl⟩ := he
    exact ⟨rfl, by simpa using h1, by simpa using h2, fun i o h => by simp at h⟩
  | cons o os ih =>
    intro hs lk H lk1 H1 ps rs preS preO he h1 h2 hpl
    unfold evBody at he
    split at he
    · simp at he
    · rename_i sw ow p1 hev
      split at he
      · simp at he
      · rename_i lk2 H2 qs rs2 hrest
        simp only [Option.some.injEq, Prod.mk.injEq] at he
        obtain ⟨rfl, rfl, rfl, rfl⟩ := he
        obtain ⟨g1, g2, g3, g4⟩ := ih hs.tail _ _ _ _ _ _ (preS ++ [sw]) (preO ++ [ow]) hrest (by rw [stS_app, ← h1]; simp [stS]) (by
          rw [h2, setH_listOf, stS_app]; simp [stS]) (by simp [hpl])
        refine ⟨by simp [g1], by simpa using g2, by simpa using g3, fun i o' ho => ?_⟩
        cases i with
        | zero =>
          simp at ho; subst ho
          refine ⟨_, hs.headD .no, p1, rfl, fun p hp => List.mem_append_left _ hp, ?_, rfl, ?_⟩
          · simp only [List.map_cons, Nat.add_zero, List.take_left']
            rw [← h1]
          · simp only [List.map_cons, Nat.add_zero]
            rw [List.take_left' rfl, List.take_left' hpl.symm, ← h1, ← h2]
            exact hev
        | succ i =>
          obtain ⟨q, h, qs', k1, k2, k3, k4, k5⟩ := g4 i o' (by simpa using ho)
          have e1 : (preS ++ [sw]).length + i = preS.length + (i + 1) := by simp; omega
          rw [e1] at k3 k5
          refine ⟨q, h, qs', by simpa using k1, fun p hp => List.mem_append_right _ (k2 p hp), by simpa using k3, k4, by simpa using k5⟩

theorem pairs2_at {dsts : List (Option Tmp)} {as : List (List Nat)} {i : Nat} {oi : Oper} {qi : BRec} : ∀ (os : List Oper) (qs : List BRec) (k : Nat), pairs2 dsts as i oi qi os qs k = true → ∀ (j : Nat) oj qj, os[j]? = some oj → qs[j]? = some qj → apart2 dsts as i (k + j) oi oj qi qj = true := by
  intro os
  induction os with
  | nil => intro qs k _ j oj qj h; simp at h
  | cons o os ih =>
    intro qs k h j oj qj ho hq
    cases qs with
    | nil => simp at hq
    | cons q qs =>
      simp only [pairs2, Bool.and_eq_true] at h
      cases j with
      | zero => simp at ho hq; subst ho; subst hq; exact h.1
      | succ j => have := ih qs (k + 1) h.2 j oj qj (by simpa using ho) (by simpa using hq); rw [show k + (j + 1) = k + 1 + j by omega]; exact this
theorem allPairs2_at {dsts : List (Option Tmp)} {as : List (List Nat)} : ∀ (os : List Oper) (qs : List BRec) (k : Nat), allPairs2 dsts as os qs k = true → ∀ (i j : Nat) oi oj qi qj, i < j → os[i]? = some oi → os[j]? = some oj → qs[i]? = some qi → qs[j]? = some qj →
    apart2 dsts as (k + i) (k + j) oi oj qi qj = true := by
  intro os
  induction os with
  | nil => intro qs k _ i j oi oj qi qj _ h; simp at h
  | cons o os ih =>
    intro qs k h i j oi oj qi qj hij hoi hoj hqi hqj
    cases qs with
    | nil => simp at hqi
    | cons q qs =>
      simp only [allPairs2, Bool.and_eq_true] at h
      obtain ⟨j, rfl⟩ : ∃ j', j = j' + 1 := ⟨j - 1, by omega⟩
      simp at hoj hqj
      cases i with
      | zero =>
        simp at hoi hqi; subst hoi; subst hqi
        have := pairs2_at os qs (k + 1) h.1 j oj qj hoj hqj
        rw [Nat.add_zero, show k + (j + 1) = k + 1 + j by omega]; exact this
      | succ i =>
        have := ih qs (k + 1) h.2 i j oi oj qi qj (by omega) (by simpa using hoi) hoj (by simpa using hqi) hqj
        rw [show k + (i + 1) = k + 1 + i by omega, show k + (j + 1) = k + 1 + j by omega]; exact this

theorem meetB_false {xs ys : List Nat} (h : meetB xs ys = false) : ∀ x ∈ xs, x ∉ ys := by
  intro x hx hy
  have : meetB xs ys = true := List.any_eq_true.2 ⟨x, hx, memB_iff.2 hy⟩
  rw [h] at this; simp at this

theorem inKeys_mem {A : Type} {x : Nat} {W : List (Nat × A)} : inKeys x W ↔ x ∈ W.map (·.1) := by
  simp only [inKeys, List.mem_map]
  constructor
  · rintro ⟨a, ha⟩; exact ⟨(x, a), ha, rfl⟩
  · rintro ⟨⟨y, a⟩, ha, rfl⟩; exact ⟨a, ha⟩

/-- A region whose order is drawn, whatever its body makes and writes. -/
theorem awp_any (hT : Tab.ok P tt) (hm : P.follows .mixedOrders = true) {id m : Nat} {ops : Array Oper} {hs : List Hint} {mid ks : List Nat} {T T' : St} {H H' : List O} {ps : List Prop} {Q : Exit → St → List O → Prop}
    (he : evAny P tt N m ops hs mid ks T H = some (T', H', ps)) (hp : AllP ps) (hq : Q .normal T' H') : awp P rd N fl (.region id ops true) Q T H := by
  intro ro hro Γ a w hfl hi
  refine wpIn_region_any hm ?_
  unfold evAny at he
  split at he
  · rename_i hcond
    simp only [any0B, Bool.and_eq_true] at hcond
    obtain ⟨⟨hle, hback⟩, htail⟩ := hcond
    simp at hle
    split at he
    · simp at he
    · rename_i lk1 H1 ps1 rs h1
      split at he
      · rename_i hcond2
        simp only [Bool.and_eq_true] at hcond2
        obtain ⟨hpairs, hfresh⟩ := hcond2
        split at he
        · simp at he
        · rename_i T2 H2 qs h2
          simp at he
          obtain ⟨rfl, rfl, rfl⟩ := he
          have hpm := hp.mem
          obtain ⟨bs, Z, hW, hI⟩ := hi
          have hdrew : InvW Γ H bs Z { w with drawn := w.drawn + 1 } := hW.congrW rfl rfl rfl rfl
          have hI0 : InvF N Γ (fun x => T.lookup x) bs Z a { w with drawn := w.drawn + 1 } := (hI.toF).mono (fun _ _ h => h) (fun _ h => h) (fun _ _ => rfl)
          let n := H.length
          let f0 : Nat → O := fun i => H.getD i default
          let lk0 : Nat → Option V := fun x => T.lookup x
          have hH0 : H = listOf n f0 := (listOf_self H).symm
          obtain ⟨e1, e2, e3, e4⟩ := evBody_run (P := P) (tt := tt) (N := N) (n := n) (lk0 := lk0) (f0 := f0) (ops.toList.take m) hs lk0 H lk1 H1 ps1 rs [] [] h1 rfl (by simpa [stS] using hH0) rfl
          simp only [List.nil_append, List.length_nil, Nat.zero_add] at e2 e3 e4
          let sws := rs.map (·.sw)
          let ows := rs.map (·.ow)
          have hrl : rs.length = m := by rw [e1]; simp; omega
          have hbk : ∀ (i : Nat) (o : Oper), ops.toList[i]? = some o → ∀ e ∈ o.after.toList, Region.binds .any e = true → e.on < i := fun i o ho e he hb => by
            have := allBackB_at ops.toList 0 hback i o ho e he hb
            omega
          let as := ancs ops.toList []
          have htk : ∀ (i : Nat) o, i < m → ops.toList[i]? = some o → (ops.toList.take m)[i]? = some o := fun i o hi ho => by rw [List.getElem?_take, if_pos hi]; exact ho
          have hsw : ∀ (j : Nat) W, sws[j]? = some W → ∃ q, rs[j]? = some q ∧ q.sw = W ∧ j < m := by
            intro j W h
            simp only [sws, List.getElem?_map, Option.map_eq_some_iff] at h
            obtain ⟨q, hq1, hq2⟩ := h
            exact ⟨q, hq1, hq2, by rw [← hrl]; exact (List.getElem?_eq_some_iff.1 hq1).1⟩
          have how : ∀ (j : Nat) W, ows[j]? = some W → ∃ q, rs[j]? = some q ∧ q.ow = W ∧ j < m := by
            intro j W h
            simp only [ows, List.getElem?_map, Option.map_eq_some_iff] at h
            obtain ⟨q, hq1, hq2⟩ := h
            exact ⟨q, hq1, hq2, by rw [← hrl]; exact (List.getElem?_eq_some_iff.1 hq1).1⟩
          have hopl : ∀ j, j < m → ∃ o, ops.toList[j]? = some o := by
            intro j hj
            have : j < ops.toList.length := by simp; omega
            exact ⟨_, List.getElem?_eq_getElem this⟩
          -- the tail, one operation at a time
          have tailw : ∀ (n k : Nat) (hs' : List Hint) (Tk : St) (Hk : List O) (ps' : List Prop) (listed : Array Bool) (a : Act) (w : World), n = ops.size - k → m ≤ k → k ≤ ops.size → listed.size = ops.size →
              (∀ i, i < k → listed.getD i false = true) → (∀ i, k ≤ i → listed.getD i false = false) → evOps P tt N (ops.toList.map (·.dst)) (ops.toList.drop k) hs' Tk Hk = some (T2, H2, ps') → (∀ p ∈ ps', p) →
              Inv N Γ Tk Hk a w → ∀ fuel, n ≤ fuel → wpAnyIn (wideAt ro) 0 P .any ops (fun e a' w' => ∃ T' H', Q e T' H' ∧ Inv N Γ T' H' a' w') fuel listed a w := by
            intro n
            induction n with
            | zero =>
              intro k hs' Tk Hk ps' listed a w hn hmk hkn hsz hdone hundone hev hps hinv fuel _
              have hk : k = ops.size := by omega
              have hnil : ops.toList.drop k = [] := List.drop_eq_nil_of_le (by simp; omega)
              rw [hnil] at hev
              simp [evOps] at hev
              obtain ⟨rfl, rfl, rfl⟩ := hev
              have hready : Region.ready .any ops listed = [] := by
                rw [List.eq_nil_iff_forall_not_mem]
                intro i hi
                obtain ⟨o, ho, h3, _⟩ := (ready_iff hsz).1 hi
                have : i < ops.size := (Array.getElem?_eq_some_iff.1 ho).1
                rw [hdone i (by omega)] at h3; simp at h3
              have hfin : ∃ T' H', Q .normal T' H' ∧ Inv N Γ T' H' a w := ⟨_, _, hq, hinv.keep ks⟩
              cases fuel with
              | zero => exact ⟨hready, hfin⟩
              | succ fuel => exact ⟨fun _ => hfin, fun i hi => by rw [hready] at hi; simp at hi⟩
            | succ n ih =>
              intro k hs' Tk Hk ps' listed a w hn hmk hkn hsz hdone hundone hev hps hinv fuel hf
              obtain ⟨fuel, rfl⟩ : ∃ f, fuel = f + 1 := ⟨fuel - 1, by omega⟩
              have hklt : k < ops.size := by omega
              have hko : ops.toList[k]? = some ops[k] := by simp [hklt]
              have hdrop : ops.toList.drop k = ops[k] :: ops.toList.drop (k + 1) := by
                rw [List.drop_eq_getElem_cons (by simpa using hklt)]; simp
              rw [hdrop] at hev
              unfold evOps at hev
              split at hev
              · simp at hev
              · rename_i T3 H3 p3 hv1
                split at hev
                · simp at hev
                · rename_i T4 H4 p4 hv2
                  simp at hev
                  obtain ⟨rfl, rfl, rfl⟩ := hev
                  have hkready : k ∈ Region.ready .any ops listed := by
                    refine (ready_iff hsz).2 ⟨ops[k], by simp [hklt], hundone k (Nat.le_refl _), fun e he hb => hdone _ (hbk k _ hko e he hb)⟩
                  refine ⟨fun h => by rw [h] at hkready; simp at hkready, fun i hi => ?_⟩
                  obtain ⟨o, ho, h3, h4⟩ := (ready_iff hsz).1 hi
                  have hilt : i < ops.size := (Array.getElem?_eq_some_iff.1 ho).1
                  have hik : i = k := by
                    rcases Nat.lt_trichotomy i k with hlt | heq | hgt
                    · rw [hdone i hlt] at h3; simp at h3
                    · exact heq
                    · have hanc : k ∈ as.getD i [] := tailB_at (ops.toList.length - m) m htail i (by omega) (by simp; omega) k hgt
                      have hcl := anc_closed (ops := ops.toList) (L := fun j => listed.getD j false = true) hbk 0 [] rfl rfl i o (by simpa using ho) h4
                        (fun j o' hj hL e he hb => by
                          have hjk : j < k := by
                            rcases Nat.lt_or_ge j k with h | h
                            · exact h
                            · rw [hundone j h] at hL; simp at hL
                          exact hdone _ (by have := hbk j o' hj e he hb; omega)) rfl k hanc
                      rw [hundone k (Nat.le_refl _)] at hcl; simp at hcl
                  subst hik
                  unfold wpOpIn
                  rw [ho]
                  have hoeq : o = ops[i] := by have : ops[i]? = some ops[i] := by simp [hklt]
                                               rw [ho] at this; simpa using this
                  subst hoeq
                  have := evOne_sound (P := P) (N := N) hT (ops := ops) (ro := ro) (Q := fun e a' w' => ∃ T' H', Q e T' H' ∧ Inv N Γ T' H' a' w') (next := wpAnyIn (wideAt ro) 0 P .any ops (fun e a' w' => ∃ T' H', Q e T' H' ∧ Inv N Γ T' H' a' w') fuel (listed.setIfInBounds i true)) hv1
                    (fun p hp' => hps p (List.mem_append_left _ hp')) hinv
                    (fun a' w' hi' => ih (i + 1) hs'.tail T3 H3 p4 (listed.setIfInBounds i true) a' w' (by omega) (by omega) (by omega) (by simp [hsz])
                      (fun j hj => by
                        rw [getD_set (by omega)]
                        split
                        · rfl
                        · exact hdone j (by omega))
                      (fun j hj => by
                        rw [getD_set (by omega), if_neg (by omega)]
                        exact hundone j (by omega)) hv2 (fun p hp' => hps p (List.mem_append_right _ hp')) hi' fuel (by omega))
                  simp only []
                  split
                  · rename_i hw; rw [if_pos hw] at this; exact this
                  · rename_i hw; rw [if_neg hw] at this; exact ⟨fun _ _ => trivial, this⟩
          -- the body
          have bodyw : ∀ (c : Nat) (listed : Array Bool) (a : Act) (w : World) (bs : Bs) (Z : Nat → Prop), ((List.range m).countP fun i => !listed.getD i false) = c → listed.size = ops.size → (∀ i, m ≤ i → listed.getD i false = false) →
              (∀ (i : Nat) (o : Oper), ops.toList[i]? = some o → listed.getD i false = true → ∀ e ∈ o.after.toList, Region.binds .any e = true → listed.getD e.on false = true) →
              InvW Γ (listOf n (stS (fun i => listed.getD i false) f0 ows 0)) bs Z w → InvF N Γ (stS (fun i => listed.getD i false) lk0 sws 0) bs Z a w → ∀ fuel, c + (ops.size - m) ≤ fuel →
              wpAnyIn (wideAt ro) 0 P .any ops (fun e a' w' => ∃ T' H', Q e T' H' ∧ Inv N Γ T' H' a' w') fuel listed a w := by
            intro c
            induction c with
            | zero =>
              intro listed a w bs Z hcount hsz hunt hdown hW hI fuel hf
              have hall : ∀ i, i < m → listed.getD i false = true := by
                intro i hi
                have := List.countP_eq_zero.1 hcount i (List.mem_range.2 hi)
                simpa using this
              have hlk : lk1 = stS (fun i => listed.getD i false) lk0 sws 0 := by
                rw [e2]
                funext x
                refine stS_agree sws _ _ 0 rfl (fun j W hj _ => ?_)
                obtain ⟨_, _, _, hjm⟩ := hsw j W hj
                rw [Nat.zero_add, hall j hjm]
              have hH1 : H1 = listOf n (stS (fun i => listed.getD i false) f0 ows 0) := by
                rw [e3]
                congr 1
                funext x
                refine stS_agree ows _ _ 0 rfl (fun j W hj _ => ?_)
                obtain ⟨_, _, _, hjm⟩ := how j W hj
                rw [Nat.zero_add, hall j hjm]
              rw [← hlk] at hI
              rw [← hH1] at hW
              refine tailw (ops.size - m) m (hs.drop m) (mid.filterMap fun k => (lk1 k).map fun v => (k, v)) H1 qs listed a w rfl (Nat.le_refl _) (by simpa using hle) hsz hall hunt h2 (fun p hp' => hpm p (List.mem_append_right _ hp')) ⟨bs, Z, hW, hI.size, hI.defers, fun i x hx => ?_⟩ fuel (by omega)
              simp only [List.mem_filterMap, Option.map_eq_some_iff, Prod.mk.injEq] at hx
              obtain ⟨k, _, v, hv, rfl, rfl⟩ := hx
              exact hI.rel k v hv
            | succ c ih =>
              intro listed a w bs Z hcount hsz hunt hdown hW hI fuel hf
              obtain ⟨fuel, rfl⟩ : ∃ f, fuel = f + 1 := ⟨fuel - 1, by omega⟩
              have hsome : Region.ready .any ops listed ≠ [] := by
                have hex : ∃ i, i < m ∧ listed.getD i false = false := by
                  have : 0 < (List.range m).countP fun i => !listed.getD i false := by omega
                  obtain ⟨i, hi, hb⟩ := List.countP_pos_iff.1 this
                  exact ⟨i, List.mem_range.1 hi, by simpa using hb⟩
                have hmin : ∀ q i, i ≤ q → i < m → listed.getD i false = false → ∃ j, j < m ∧ listed.getD j false = false ∧ ∀ l, l < j → listed.getD l false = true := by
                  intro q
                  induction q with
                  | zero => intro i hi him hl; exact ⟨i, him, hl, fun l hl' => by omega⟩
                  | succ q ihq =>
                    intro i hi him hl
                    by_cases hex2 : ∃ j, j < i ∧ listed.getD j false = false
                    · obtain ⟨j, hj, hjl⟩ := hex2
                      exact ihq j (by omega) (by omega) hjl
                    · refine ⟨i, him, hl, fun l hl' => ?_⟩
                      cases hv : listed.getD l false with
                      | true => rfl
                      | false => exact absurd ⟨l, hl', hv⟩ hex2
                obtain ⟨i, him, hil⟩ := hex
                obtain ⟨j, hjm, hjl, hjall⟩ := hmin i i (Nat.le_refl _) him hil
                have hjs : j < ops.size := by have : ops.toList.length = ops.size := by simp
                                              omega
                intro hnil
                have : j ∈ Region.ready .any ops listed := (ready_iff hsz).2 ⟨ops[j], by simp [hjs], hjl, fun e he hb => hjall _ (hbk j _ (by simp [hjs]) e he hb)⟩
                rw [hnil] at this; simp at this
              refine ⟨fun h => absurd h hsome, fun i hi => ?_⟩
              obtain ⟨o, ho, h3, h4⟩ := (ready_iff hsz).1 hi
              have hilt : i < ops.size := (Array.getElem?_eq_some_iff.1 ho).1
              have hoL : ops.toList[i]? = some o := by simpa using ho
              have hclosed := anc_closed (ops := ops.toList) (L := fun j => listed.getD j false = true) hbk 0 [] rfl rfl
              have him : i < m := by
                rcases Nat.lt_or_ge i m with h | h
                · exact h
                · exfalso
                  have : ∀ j, j < m → listed.getD j false = true := fun j hj => hclosed i o hoL h4 hdown rfl j (tailB_at (ops.toList.length - m) m htail i h (by simp; omega) j (by omega))
                  have h0 : ((List.range m).countP fun i => !listed.getD i false) = 0 := List.countP_eq_zero.2 (fun j hj => by simp [this j (List.mem_range.1 hj)])
                  omega
              obtain ⟨q, h', qs', hqi, hqs, hfoot, hresq, hval⟩ := e4 i o (htk i o him hoL)
              -- whoever is ahead of i in the text, or behind it
              have hahead : ∀ (j : Nat) qj, j < i → rs[j]? = some qj → listed.getD j false = true ∨ ((∀ x ∈ qj.sw.map (·.1), x ∉ looks (ops.toList.map (·.dst)) o ∧ x ∉ q.sw.map (·.1)) ∧ (∀ x ∈ qj.ow.map (·.1), x ∉ q.foot ∧ x ∉ q.ow.map (·.1))) := by
                intro j qj hji hqj
                obtain ⟨oj, hoj⟩ := hopl j (by omega)
                have hap := allPairs2_at _ _ 0 hpairs j i oj o qj q hji (htk j oj (by omega) hoj) (htk i o him hoL) hqj hqi
                simp only [Nat.zero_add, apart2, Bool.and_eq_true, Bool.or_eq_true, Bool.not_eq_true'] at hap
                rcases hap.1.1 with ha | ⟨⟨⟨⟨⟨b1, b2⟩, b3⟩, b4⟩, b5⟩, b6⟩
                · exact .inl (hclosed i o hoL h4 hdown rfl j (memB_iff.1 ha))
                · exact .inr ⟨fun x hx => ⟨meetB_false b1 x hx, meetB_false b2 x hx⟩, fun x hx => ⟨meetB_false b4 x hx, meetB_false b5 x hx⟩⟩
              have hbehind : ∀ (j : Nat) qj, i < j → rs[j]? = some qj → listed.getD j false = false ∨ ((∀ x ∈ qj.sw.map (·.1), x ∉ looks (ops.toList.map (·.dst)) o ∧ x ∉ q.sw.map (·.1)) ∧ (∀ x ∈ qj.ow.map (·.1), x ∉ q.foot ∧ x ∉ q.ow.map (·.1))) := by
                intro j qj hji hqj
                have hjm : j < m := by rw [← hrl]; exact (List.getElem?_eq_some_iff.1 hqj).1
                obtain ⟨oj, hoj⟩ := hopl j hjm
                have hap := allPairs2_at _ _ 0 hpairs i j o oj q qj hji (htk i o him hoL) (htk j oj hjm hoj) hqi hqj
                simp only [Nat.zero_add, apart2, Bool.and_eq_true, Bool.or_eq_true, Bool.not_eq_true'] at hap
                rcases hap.1.1 with ha | ⟨⟨⟨⟨⟨b1, b2⟩, b3⟩, b4⟩, b5⟩, b6⟩
                · left
                  cases hv : listed.getD j false with
                  | false => rfl
                  | true =>
                    have := hclosed j oj hoj (hdown j oj hoj hv) hdown rfl i (memB_iff.1 ha)
                    rw [h3] at this; simp at this
                · exact .inr ⟨fun x hx => ⟨meetB_false b3 x hx, fun hx2 => meetB_false b2 x hx2 hx⟩, fun x hx => ⟨meetB_false b6 x hx, fun hx2 => meetB_false b5 x hx2 hx⟩⟩
              -- the operation sees what it saw in the text's order
              have hsame : ∀ x ∈ looks (ops.toList.map (·.dst)) o, stS (fun _ => true) lk0 (sws.take i) 0 x = stS (fun i => listed.getD i false) lk0 sws 0 x := by
                intro x hx
                rw [stS_take sws i lk0 0]
                refine stS_agree sws _ _ 0 rfl (fun j W hj hk => ?_)
                obtain ⟨qj, hqj, hqW, hjm⟩ := hsw j W hj
                simp only [Nat.zero_add]
                have hxW : x ∈ qj.sw.map (·.1) := by rw [hqW]; exact inKeys_mem.1 hk
                rcases Nat.lt_trichotomy j i with hlt | heq | hgt
                · rcases hahead j qj hlt hqj with h | ⟨h, _⟩
                  · simp [hlt, h]
                  · exact absurd hx (h x hxW).1
                · subst heq; simp [h3]
                · rcases hbehind j qj hgt hqj with h | ⟨h, _⟩
                  · simp [show ¬ j < i by omega, h]
                  · exact absurd hx (h x hxW).1
              have hsameO : ∀ x ∈ q.foot, stS (fun _ => true) f0 (ows.take i) 0 x = stS (fun i => listed.getD i false) f0 ows 0 x := by
                intro x hx
                rw [stS_take ows i f0 0]
                refine stS_agree ows _ _ 0 rfl (fun j W hj hk => ?_)
                obtain ⟨qj, hqj, hqW, hjm⟩ := how j W hj
                simp only [Nat.zero_add]
                have hxW : x ∈ qj.ow.map (·.1) := by rw [hqW]; exact inKeys_mem.1 hk
                rcases Nat.lt_trichotomy j i with hlt | heq | hgt
                · rcases hahead j qj hlt hqj with h | ⟨_, h⟩
                  · simp [hlt, h]
                  · exact absurd hx (h x hxW).1
                · subst heq; simp [h3]
                · rcases hbehind j qj hgt hqj with h | ⟨_, h⟩
                  · simp [show ¬ j < i by omega, h]
                  · exact absurd hx (h x hxW).1
              have hval' := (evB_congr (P := P) (tt := tt) (N := N) (h := h') hsame (H := listOf n (stS (fun _ => true) f0 (ows.take i) 0)) (H' := listOf n (stS (fun i => listed.getD i false) f0 ows 0)) (fun idx hid => by
                rw [listOf_get, listOf_get]
                split
                · rw [hsameO idx (by rw [hfoot]; exact hid)]
                · rfl) (by simp [listOf])).symm.trans hval
              -- what is reserved is named by nobody yet
              have hresv : ∀ r, resOf h' = some r → (∀ x v, stS (fun i => listed.getD i false) lk0 sws 0 x = some v → r ∉ v.ids) ∧ (∀ (k : Nat) o, (listOf n (stS (fun i => listed.getD i false) f0 ows 0))[k]? = some o → r ∉ o.ids) := by
                intro r hr
                have hqr : q.res = some r := hresq.trans hr
                have hnn : ∀ (j : Nat) qj, rs[j]? = some qj → listed.getD j false = true → namesB r qj = false := by
                  intro j qj hqj hjl
                  have hjm : j < m := by rw [← hrl]; exact (List.getElem?_eq_some_iff.1 hqj).1
                  obtain ⟨oj, hoj⟩ := hopl j hjm
                  rcases Nat.lt_trichotomy j i with hlt | heq | hgt
                  · have hap := allPairs2_at _ _ 0 hpairs j i oj o qj q hlt (htk j oj hjm hoj) (htk i o him hoL) hqj hqi
                    simp only [Nat.zero_add, apart2, Bool.and_eq_true, hqr, Bool.not_eq_true'] at hap
                    exact hap.2
                  · subst heq; rw [h3] at hjl; simp at hjl
                  · have hap := allPairs2_at _ _ 0 hpairs i j o oj q qj hgt (htk i o him hoL) (htk j oj hjm hoj) hqi hqj
                    simp only [Nat.zero_add, apart2, Bool.and_eq_true, hqr, Bool.or_eq_true, Bool.not_eq_true'] at hap
                    rcases hap.1.2 with ha | hb
                    · have := hclosed j oj hoj (hdown j oj hoj hjl) hdown rfl i (memB_iff.1 ha)
                      rw [h3] at this; simp at this
                    · exact hb
                have hfr := List.all_eq_true.1 hfresh q (List.mem_of_getElem? hqi)
                rw [hqr] at hfr
                simp only [Bool.and_eq_true, List.all_eq_true, Bool.not_eq_true'] at hfr
                constructor
                · intro x v hx hrv
                  rcases stS_from (S := fun i => listed.getD i false) (x := x) sws lk0 0 with hs | ⟨j, W, hj, hS, hmem⟩
                  · rw [hx] at hs
                    have hm' := mem_of_lookup hs.symm
                    have := hfr.1 _ hm'
                    rw [memB_iff.2 hrv] at this; simp at this
                  · obtain ⟨qj, hqj, hqW, _⟩ := hsw j W hj
                    have hnm := hnn j qj hqj (by simpa using hS)
                    rw [hx, ← hqW] at hmem
                    have : namesB r qj = true := by
                      unfold namesB
                      rw [Bool.or_eq_true]
                      exact .inl (List.any_eq_true.2 ⟨_, hmem, memB_iff.2 hrv⟩)
                    rw [hnm] at this; simp at this
                · intro k o' hk hro
                  rw [listOf_get] at hk
                  split at hk
                  · rename_i hkn
                    have hk := Option.some.inj hk
                    rcases stS_from (S := fun i => listed.getD i false) (x := k) ows f0 0 with hs | ⟨j, W, hj, hS, hmem⟩
                    · rw [hk] at hs
                      have hm' : o' ∈ H := by
                        rw [hs]
                        simp only [f0, List.getD_eq_getElem?_getD, List.getElem?_eq_getElem (show k < H.length from hkn), Option.getD_some]
                        exact List.getElem_mem _
                      have := hfr.2 _ hm'
                      rw [memB_iff.2 hro] at this; simp at this
                    · obtain ⟨qj, hqj, hqW, _⟩ := how j W hj
                      have hnm := hnn j qj hqj (by simpa using hS)
                      rw [hk, ← hqW] at hmem
                      have : namesB r qj = true := by
                        unfold namesB
                        rw [Bool.or_eq_true]
                        exact .inr (List.any_eq_true.2 ⟨_, hmem, memB_iff.2 hro⟩)
                      rw [hnm] at this; simp at this
                  · simp at hk
              unfold wpOpIn
              rw [ho]
              have hS' : ∀ j, j ≠ i → (listed.setIfInBounds i true).getD j false = listed.getD j false := fun j hj => by rw [getD_set (by omega), if_neg hj]
              have hSi : (listed.setIfInBounds i true).getD i false = true := by rw [getD_set (by omega), if_pos rfl]
              have hadd : stS (fun j => (listed.setIfInBounds i true).getD j false) lk0 sws 0 = updW (stS (fun j => listed.getD j false) lk0 sws 0) q.sw := by
                refine stS_add (i := i) (by simp only [sws, List.getElem?_map, hqi, Option.map_some]) hSi hS' (fun j W' x hj hlt hjl hx hx' => ?_)
                obtain ⟨qj, hqj, hqW, _⟩ := hsw j W' hj
                rcases hbehind j qj hlt hqj with h | ⟨h, _⟩
                · rw [h] at hjl; simp at hjl
                · exact (h x (by rw [hqW]; exact inKeys_mem.1 hx')).2 (inKeys_mem.1 hx)
              have haddO : stS (fun j => (listed.setIfInBounds i true).getD j false) f0 ows 0 = updW (stS (fun j => listed.getD j false) f0 ows 0) q.ow := by
                refine stS_add (i := i) (by simp only [ows, List.getElem?_map, hqi, Option.map_some]) hSi hS' (fun j W' x hj hlt hjl hx hx' => ?_)
                obtain ⟨qj, hqj, hqW, _⟩ := how j W' hj
                rcases hbehind j qj hlt hqj with h | ⟨_, h⟩
                · rw [h] at hjl; simp at hjl
                · exact (h x (by rw [hqW]; exact inKeys_mem.1 hx')).2 (inKeys_mem.1 hx)
              have := evB_sound (P := P) (N := N) (ro := ro) hT (ops := ops) (Q := fun e a' w' => ∃ T' H', Q e T' H' ∧ Inv N Γ T' H' a' w')
                (next := wpAnyIn (wideAt ro) 0 P .any ops (fun e a' w' => ∃ T' H', Q e T' H' ∧ Inv N Γ T' H' a' w') fuel (listed.setIfInBounds i true)) hval' (fun p hp' => hpm p (List.mem_append_left _ (hqs p hp'))) hW hI hresv
                (fun a' bs' Z' w' hW' hI' => by
                  refine ih (listed.setIfInBounds i true) a' w' bs' Z' ?_ (by simp [hsz]) ?_ ?_ (by rw [haddO, ← setH_listOf]; exact hW') (by rw [hadd]; exact hI') fuel (by omega)
                  · have hc := count_set (fun j => !listed.getD j false) i m
                    rw [if_pos ⟨him, by simp [h3]⟩, hcount] at hc
                    have hfun : (fun j => !(listed.setIfInBounds i true).getD j false) = fun j => (!listed.getD j false) && j != i := by
                      funext j
                      rw [getD_set (by omega)]
                      by_cases hji : j = i
                      · subst hji; simp
                      · rw [if_neg hji, show (j != i) = true by simpa using hji, Bool.and_true]
                    rw [hfun]
                    omega
                  · intro j hj
                    rw [getD_set (by omega), if_neg (by omega)]
                    exact hunt j hj
                  · intro j oj hoj hl e he hb
                    rw [getD_set (by omega)] at hl ⊢
                    split
                    · rfl
                    · by_cases hji : j = i
                      · subst hji
                        rw [hoL] at hoj; simp at hoj; subst hoj
                        exact h4 e he hb
                      · rw [if_neg hji] at hl
                        exact hdown j oj hoj hl e he hb)
              simp only []
              split
              · rename_i hw; rw [if_pos hw] at this; exact this
              · rename_i hw; rw [if_neg hw] at this; exact ⟨fun _ _ => trivial, this⟩
          have hnl : ∀ i, (Array.replicate ops.size false).getD i false = false := by
            intro i
            simp only [Array.getD_eq_getD_getElem?, Array.getElem?_replicate]
            split <;> rfl
          refine bodyw m (Array.replicate ops.size false) a _ bs Z ?_ (by simp) (fun i _ => hnl i) (fun i o ho hl => by rw [hnl] at hl; simp at hl) ?_ ?_ ops.size (by have hl2 : ops.toList.length = ops.size := Array.length_toList; omega)
          · rw [List.countP_eq_length.2 (fun i _ => by rw [hnl]; rfl)]; simp
          · rw [stS_none ows _ f0 0 (fun j _ => hnl j), ← hH0]; exact hdrew
          · rw [stS_none sws _ lk0 0 (fun j _ => hnl j)]; exact hI0
      · simp at he
  · simp at he

/-- Numbers are reserved. -/
theorem awp_res {c : Code} {T : St} {H : List O} {Q : Exit → St → List O → Prop} (H' : List O) (hH : H ++ [.data []] = H') (h : awp P rd N fl c Q T H') : awp P rd N fl c Q T H := by
  subst hH
  intro ro hro Γ a w hm hi
  obtain ⟨bs, Z, hW, hI⟩ := hi
  refine h ro hro Γ a w hm ⟨bs ++ [none], Z, ?_, hI.mono bs_push (fun _ h => h) (fun _ _ => rfl)⟩
  have hcase : ∀ (i : Nat) (p : Nat × Nat), (bs ++ [none])[i]? = some (some p) → bs[i]? = some (some p) := by
    intro i p h
    rw [List.getElem?_append] at h
    split at h
    · exact h
    · rcases Nat.eq_zero_or_pos (i - bs.length) with h0 | h0
      · rw [h0] at h; simp at h
      · rw [List.getElem?_eq_none (by simp; omega)] at h; simp at h
  constructor
  · simp [hW.lenH]
  · intro i o q ho hq
    rw [List.getElem?_append] at ho hq
    rw [← hW.lenH] at ho
    split at ho
    · rename_i hlt
      rw [if_pos hlt] at hq
      exact (hW.objs i o q ho hq).mono bs_push (fun _ h => h) (fun _ _ => rfl) (fun _ _ _ => rfl)
    · rename_i hlt
      rw [if_neg hlt] at hq
      rcases Nat.eq_zero_or_pos (i - bs.length) with h0 | h0
      · rw [h0] at ho hq
        simp at ho hq
        subst ho; subst hq; rfl
      · rw [List.getElem?_eq_none (by simp; omega)] at ho; simp at ho
  · intro i j b k k' hi hj; exact hW.nodup i j b k k' (hcase _ _ hi) (hcase _ _ hj)
  · intro i b k hi; exact hW.disj i b k (hcase _ _ hi)
  · intro i b k hi; exact hW.lt i b k (hcase _ _ hi)
  · exact hW.zlt
  · exact hW.z0
  · intro i b k hi; exact hW.fresh i b k (hcase _ _ hi)
  · exact hW.zfresh
  · exact hW.size
  · exact hW.frame
  · exact hW.os
  · exact hW.tape
  · exact hW.output
  · intro i p hp
    obtain ⟨h1, o, h2, h3⟩ := hW.pin i p hp
    exact ⟨bs_push _ _ h1, o, by rw [List.getElem?_append_left (List.getElem?_eq_some_iff.1 h2).1]; exact h2, h3⟩
end
end Go.Sx
