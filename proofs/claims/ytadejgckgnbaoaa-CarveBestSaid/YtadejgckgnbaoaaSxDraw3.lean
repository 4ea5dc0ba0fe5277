/- Regions that draw their order: the rule. -/
import Derived.Test.YtadejgckgnbaoaaSxDraw2
namespace Go.Sx
open Go
set_option linter.unusedSimpArgs false
set_option linter.unusedVariables false

section
variable {P : Program} {tt : Tab} {rd : Bool} {N fl : Nat}

theorem ready_iff {ops : Array Oper} {listed : Array Bool} {i : Nat} (hs : listed.size = ops.size) : i ∈ Region.ready .any ops listed ↔
    ∃ o, ops[i]? = some o ∧ listed.getD i false = false ∧ ∀ e ∈ o.after.toList, Region.binds .any e = true → listed.getD e.on false = true := by
  simp only [Region.ready, List.mem_filter, List.mem_range, Bool.and_eq_true, Bool.not_eq_true']
  constructor
  · rintro ⟨h1, h2, h3⟩
    have ho : ops[i]? = some ops[i] := by simp [h1]
    refine ⟨ops[i], ho, ?_, ?_⟩
    · have : i < listed.size := by omega
      simpa [Array.getD, this] using h2
    · rw [ho] at h3
      simp only [Option.map_some, Option.getD_some, ← Array.all_toList, List.all_eq_true] at h3
      intro e he hb
      have := h3 e he
      simpa [hb] using this
  · rintro ⟨o, ho, h2, h3⟩
    have hlt : i < ops.size := (Array.getElem?_eq_some_iff.1 ho).1
    refine ⟨hlt, ?_, ?_⟩
    · have : i < listed.size := by omega
      simpa [Array.getD, this] using h2
    · rw [ho]
      simp only [Option.map_some, Option.getD_some, ← Array.all_toList, List.all_eq_true]
      intro e he
      by_cases hb : Region.binds .any e = true
      · simp [hb, h3 e he hb]
      · simp [hb]

theorem getD_set {l : Array Bool} {i j : Nat} (hi : i < l.size) : (l.setIfInBounds i true).getD j false = if j = i then true else l.getD j false := by
  simp only [Array.getD_eq_getD_getElem?]
  by_cases h : j = i
  · subst h; simp [hi]
  · rw [if_neg h, Array.getElem?_setIfInBounds_ne (fun e => h e.symm)]

theorem lkS_none : ∀ (ws : List (Option Tmp × V)) (S : Nat → Bool) (lk : Nat → Option V) (k : Nat), (∀ j, k ≤ j → S j = false) → lkS S lk ws k = lk := by
  intro ws
  induction ws with
  | nil => intro S lk k _; rfl
  | cons p ws ih =>
    intro S lk k h
    obtain ⟨d, v⟩ := p
    simp only [lkS, h k (Nat.le_refl _), Bool.false_eq_true, if_false]
    exact ih S lk (k + 1) (fun j hj => h j (by omega))

theorem lkS_take : ∀ (ws : List (Option Tmp × V)) (i : Nat) (lk : Nat → Option V) (k : Nat), lkS (fun _ => true) lk (ws.take i) k = lkS (fun j => decide (j < k + i)) lk ws k := by
  intro ws
  induction ws with
  | nil => intro i lk k; simp [lkS]
  | cons p ws ih =>
    intro i lk k
    obtain ⟨d, v⟩ := p
    cases i with
    | zero =>
      rw [List.take_zero, lkS_none ((d, v) :: ws) (fun j => decide (j < k + 0)) lk k (fun j hj => by simp; omega)]
      rfl
    | succ i =>
      rw [List.take_succ_cons]
      simp only [lkS, if_true]
      rw [ih, if_pos (by simp)]
      congr 1
      funext j
      congr 1
      rw [show k + 1 + i = k + (i + 1) by omega]

theorem count_set (p : Nat → Bool) (i : Nat) : ∀ m, (List.range m).countP (fun j => p j && j != i) + (if i < m ∧ p i = true then 1 else 0) = (List.range m).countP p := by
  intro m
  induction m with
  | zero => simp
  | succ m ih =>
    rw [List.range_succ, List.countP_append, List.countP_append, ← ih]
    by_cases him : i = m
    · subst him
      have h1 : ¬ (i < i ∧ p i = true) := by omega
      rw [if_neg h1]
      by_cases hp : p i = true
      · rw [if_pos ⟨by omega, hp⟩]; simp [hp]
      · rw [if_neg (by simp [hp])]; simp [hp]
    · by_cases hlt : i < m ∧ p i = true
      · rw [if_pos hlt, if_pos ⟨by omega, hlt.2⟩]
        have : (m != i) = true := by simp; omega
        simp only [List.countP_singleton, this, Bool.and_true]
        omega
      · rw [if_neg hlt, if_neg (fun h => hlt ⟨by omega, h.2⟩)]
        have : (m != i) = true := by simp; omega
        simp only [List.countP_singleton, this, Bool.and_true]
        omega

/-- A region whose order is drawn: the body in any order, then the tail. -/
theorem awp_draw (hT : Tab.ok P tt) (hm : P.follows .mixedOrders = true) {id m : Nat} {ops : Array Oper} {hs : List Hint} {mid ks : List Nat} {T T' : St} {H H' : List O} {ps : List Prop} {Q : Exit → St → List O → Prop}
    (he : evDraw P tt N m ops hs mid ks T H = some (T', H', ps)) (hp : AllP ps) (hq : Q .normal T' H') : awp P rd N fl (.region id ops true) Q T H := by
  intro ro hro Γ a w hfl hi
  refine wpIn_region_any hm ?_
  unfold evDraw at he
  split at he
  · rename_i hcond
    simp only [drawB, Bool.and_eq_true] at hcond
    obtain ⟨⟨⟨⟨hle, hback⟩, hpairs⟩, htail⟩, hnoeff⟩ := hcond
    simp at hle
    split at he
    · simp at he
    · rename_i T1 H1 ps1 h1
      split at he
      · simp at he
      · rename_i T2 H2 qs h2
        simp at he
        obtain ⟨rfl, rfl, rfl⟩ := he
        have hpm := hp.mem
        obtain ⟨bs, Z, hW, hI⟩ := hi
        have hdrew : InvW Γ H bs Z { w with drawn := w.drawn + 1 } := ⟨hW.lenH, fun i o b ho hb => (hW.objs i o b ho hb).mono (fun _ _ h => h) (fun _ h => h) (fun _ _ => rfl) (fun _ _ _ => rfl), hW.nodup, hW.disj, hW.lt, hW.zlt, hW.z0, hW.fresh, hW.zfresh, hW.size, hW.frame, hW.os, hW.tape, hW.output, hW.pin⟩
        have hI0 : InvF N Γ (fun x => T.lookup x) bs Z a { w with drawn := w.drawn + 1 } := (hI.toF).mono (fun _ _ h => h) (fun _ h => h) (fun _ _ => rfl)
        obtain ⟨rfl, ws, e1, e2, e3⟩ := body_run (P := P) (tt := tt) (N := N) (H := H) (ops.toList.take m) hs T T1 H1 ps1 0 (fun x => T.lookup x) [] hnoeff h1 rfl rfl
        simp only [List.nil_append, Nat.zero_add] at e2 e3
        have hwl : ws.length = m := by rw [e1]; simp; omega
        have hbk : ∀ (i : Nat) (o : Oper), ops.toList[i]? = some o → ∀ e ∈ o.after.toList, Region.binds .any e = true → e.on < i := fun i o ho e he hb => by
          have := allBackB_at ops.toList 0 hback i o ho e he hb
          omega
        have hw1 : ∀ (j : Nat) d v, ws[j]? = some (d, v) → ∃ o, ops.toList[j]? = some o ∧ o.dst = d ∧ j < m := by
          intro j d v hj
          have hjl : j < m := by have := (List.getElem?_eq_some_iff.1 hj).1; omega
          have hll : ops.toList.length = ops.size := by simp
          have hjo : j < ops.toList.length := by omega
          have ho : (ops.toList.take m)[j]? = some (ops.toList[j]'hjo) := by
            rw [List.getElem?_take, if_pos hjl]; exact List.getElem?_eq_getElem _
          obtain ⟨_, v', _, _, g2, _, _⟩ := e3 j _ ho
          rw [hj] at g2
          simp at g2
          exact ⟨_, List.getElem?_eq_getElem hjo, g2.1.symm, hjl⟩
        let as := ancs ops.toList []
        -- the tail, one operation at a time
        have tailw : ∀ (n k : Nat) (hs' : List Hint) (Tk : St) (Hk : List O) (ps' : List Prop) (listed : Array Bool) (a : Act) (w : World), n = ops.size - k → m ≤ k → k ≤ ops.size → listed.size = ops.size →
            (∀ i, i < k → listed.getD i false = true) → (∀ i, k ≤ i → listed.getD i false = false) → evOps P tt N (ops.toList.map (·.dst)) (ops.toList.drop k) hs' Tk Hk = some (T2, H2, ps') → (∀ p ∈ ps', p) →
            Inv N Γ Tk Hk a w → ∀ fuel, n ≤ fuel → wpAnyIn (wideAt ro) 0 P .any ops (fun e a' w' => ∃ T' H', Q e T' H' ∧ Inv N Γ T' H' a' w') fuel listed a w := by
          intro n
          induction n with
          | zero =>
            intro k hs' Tk Hk ps' listed a w hn hmk hkn hsz hdone hundone hev hps hinv fuel _
            have hk : k = ops.size := by omega
            have hnil : ops.toList.drop k = [] := List.drop_eq_nil_of_le (by simp; omega)
            rw [hnil] at hev
            simp [evOps] at hev
            obtain ⟨rfl, rfl, rfl⟩ := hev
            have hready : Region.ready .any ops listed = [] := by
              rw [List.eq_nil_iff_forall_not_mem]
              intro i hi
              obtain ⟨o, ho, h3, _⟩ := (ready_iff hsz).1 hi
              have : i < ops.size := (Array.getElem?_eq_some_iff.1 ho).1
              rw [hdone i (by omega)] at h3; simp at h3
            have hfin : ∃ T' H', Q .normal T' H' ∧ Inv N Γ T' H' a w := ⟨_, _, hq, hinv.keep ks⟩
            cases fuel with
            | zero => exact ⟨hready, hfin⟩
            | succ fuel => exact ⟨fun _ => hfin, fun i hi => by rw [hready] at hi; simp at hi⟩
          | succ n ih =>
            intro k hs' Tk Hk ps' listed a w hn hmk hkn hsz hdone hundone hev hps hinv fuel hf
            obtain ⟨fuel, rfl⟩ : ∃ f, fuel = f + 1 := ⟨fuel - 1, by omega⟩
            have hklt : k < ops.size := by omega
            have hko : ops.toList[k]? = some ops[k] := by simp [hklt]
            have hdrop : ops.toList.drop k = ops[k] :: ops.toList.drop (k + 1) := by
              rw [List.drop_eq_getElem_cons (by simpa using hklt)]; simp
            rw [hdrop] at hev
            unfold evOps at hev
            split at hev
            · simp at hev
            · rename_i T3 H3 p3 hv1
              split at hev
              · simp at hev
              · rename_i T4 H4 p4 hv2
                simp at hev
                obtain ⟨rfl, rfl, rfl⟩ := hev
                have hkready : k ∈ Region.ready .any ops listed := by
                  refine (ready_iff hsz).2 ⟨ops[k], by simp [hklt], hundone k (Nat.le_refl _), fun e he hb => hdone _ (hbk k _ hko e he hb)⟩
                refine ⟨fun h => by rw [h] at hkready; simp at hkready, fun i hi => ?_⟩
                obtain ⟨o, ho, h3, h4⟩ := (ready_iff hsz).1 hi
                have hilt : i < ops.size := (Array.getElem?_eq_some_iff.1 ho).1
                have hik : i = k := by
                  rcases Nat.lt_trichotomy i k with hlt | heq | hgt
                  · rw [hdone i hlt] at h3; simp at h3
                  · exact heq
                  · -- k stands ahead of i
                    have hanc : k ∈ as.getD i [] := tailB_at (ops.toList.length - m) m htail i (by omega) (by simp; omega) k hgt
                    have hcl := anc_closed (ops := ops.toList) (L := fun j => listed.getD j false = true) hbk 0 [] rfl rfl i o (by simpa using ho) h4
                      (fun j o' hj hL e he hb => by
                        have hjk : j < k := by
                          rcases Nat.lt_or_ge j k with h | h
                          · exact h
                          · rw [hundone j h] at hL; simp at hL
                        exact hdone _ (by have := hbk j o' hj e he hb; omega)) rfl k hanc
                    rw [hundone k (Nat.le_refl _)] at hcl; simp at hcl
                subst hik
                unfold wpOpIn
                rw [ho]
                have hoeq : o = ops[i] := by have : ops[i]? = some ops[i] := by simp [hklt]
                                             rw [ho] at this; simpa using this
                subst hoeq
                have := evOne_sound (P := P) (N := N) hT (ops := ops) (ro := ro) (Q := fun e a' w' => ∃ T' H', Q e T' H' ∧ Inv N Γ T' H' a' w') (next := wpAnyIn (wideAt ro) 0 P .any ops (fun e a' w' => ∃ T' H', Q e T' H' ∧ Inv N Γ T' H' a' w') fuel (listed.setIfInBounds i true)) hv1
                  (fun p hp' => hps p (List.mem_append_left _ hp')) hinv
                  (fun a' w' hi' => ih (i + 1) hs'.tail T3 H3 p4 (listed.setIfInBounds i true) a' w' (by omega) (by omega) (by omega) (by simp [hsz])
                    (fun j hj => by
                      rw [getD_set (by omega)]
                      split
                      · rfl
                      · exact hdone j (by omega))
                    (fun j hj => by
                      rw [getD_set (by omega), if_neg (by omega)]
                      exact hundone j (by omega)) hv2 (fun p hp' => hps p (List.mem_append_right _ hp')) hi' fuel (by omega))
                simp only []
                split
                · rename_i hw; rw [if_pos hw] at this; exact this
                · rename_i hw; rw [if_neg hw] at this; exact ⟨fun _ _ => trivial, this⟩
        -- the body
        have bodyw : ∀ (n : Nat) (listed : Array Bool) (a : Act) (w : World) (Z : Nat → Prop), ((List.range m).countP fun i => !listed.getD i false) = n → listed.size = ops.size → (∀ i, m ≤ i → listed.getD i false = false) →
            (∀ (i : Nat) (o : Oper), ops.toList[i]? = some o → listed.getD i false = true → ∀ e ∈ o.after.toList, Region.binds .any e = true → listed.getD e.on false = true) →
            InvW Γ H1 bs Z w → InvF N Γ (lkS (fun i => listed.getD i false) (fun x => T.lookup x) ws 0) bs Z a w → ∀ fuel, n + (ops.size - m) ≤ fuel →
            wpAnyIn (wideAt ro) 0 P .any ops (fun e a' w' => ∃ T' H', Q e T' H' ∧ Inv N Γ T' H' a' w') fuel listed a w := by
          intro n
          induction n with
          | zero =>
            intro listed a w Z hcount hsz hunt hdown hW hI fuel hf
            have hall : ∀ i, i < m → listed.getD i false = true := by
              intro i hi
              have := List.countP_eq_zero.1 hcount i (List.mem_range.2 hi)
              simpa using this
            have hlk : (fun x => T1.lookup x) = lkS (fun i => listed.getD i false) (fun x => T.lookup x) ws 0 := by
              rw [e2]
              funext x
              refine lkS_agree ws _ _ 0 rfl (fun j d v hj _ => ?_)
              obtain ⟨_, _, _, hjm⟩ := hw1 j d v hj
              rw [Nat.zero_add, hall j hjm]
            rw [← hlk] at hI
            exact tailw (ops.size - m) m (hs.drop m) (keepT mid T1) H1 qs listed a w rfl (Nat.le_refl _) (by simpa using hle) hsz hall hunt h2 (fun p hp' => hpm p (List.mem_append_right _ hp')) ⟨bs, Z, hW, hI.toT mid⟩ fuel (by omega)
          | succ n ih =>
            intro listed a w Z hcount hsz hunt hdown hW hI fuel hf
            obtain ⟨fuel, rfl⟩ : ∃ f, fuel = f + 1 := ⟨fuel - 1, by omega⟩
            -- some operation of the body is ready
            have hsome : Region.ready .any ops listed ≠ [] := by
              have hex : ∃ i, i < m ∧ listed.getD i false = false := by
                have : 0 < (List.range m).countP fun i => !listed.getD i false := by omega
                obtain ⟨i, hi, hb⟩ := List.countP_pos_iff.1 this
                exact ⟨i, List.mem_range.1 hi, by simpa using hb⟩
              -- the first one
              have hmin : ∀ q i, i ≤ q → i < m → listed.getD i false = false → ∃ j, j < m ∧ listed.getD j false = false ∧ ∀ l, l < j → listed.getD l false = true := by
                intro q
                induction q with
                | zero => intro i hi him hl; exact ⟨i, him, hl, fun l hl' => by omega⟩
                | succ q ihq =>
                  intro i hi him hl
                  by_cases hex2 : ∃ j, j < i ∧ listed.getD j false = false
                  · obtain ⟨j, hj, hjl⟩ := hex2
                    exact ihq j (by omega) (by omega) hjl
                  · refine ⟨i, him, hl, fun l hl' => ?_⟩
                    cases hv : listed.getD l false with
                    | true => rfl
                    | false => exact absurd ⟨l, hl', hv⟩ hex2
              obtain ⟨i, him, hil⟩ := hex
              obtain ⟨j, hjm, hjl, hjall⟩ := hmin i i (Nat.le_refl _) him hil
              have hjs : j < ops.size := by have : ops.toList.length = ops.size := by simp
                                            omega
              intro hnil
              have : j ∈ Region.ready .any ops listed := (ready_iff hsz).2 ⟨ops[j], by simp [hjs], hjl, fun e he hb => hjall _ (hbk j _ (by simp [hjs]) e he hb)⟩
              rw [hnil] at this; simp at this
            refine ⟨fun h => absurd h hsome, fun i hi => ?_⟩
            obtain ⟨o, ho, h3, h4⟩ := (ready_iff hsz).1 hi
            have hilt : i < ops.size := (Array.getElem?_eq_some_iff.1 ho).1
            have hoL : ops.toList[i]? = some o := by simpa using ho
            have hclosed := anc_closed (ops := ops.toList) (L := fun j => listed.getD j false = true) hbk 0 [] rfl rfl
            have him : i < m := by
              rcases Nat.lt_or_ge i m with h | h
              · exact h
              · -- all of the body stands ahead of it
                exfalso
                have : ∀ j, j < m → listed.getD j false = true := fun j hj => hclosed i o hoL h4 hdown rfl j (tailB_at (ops.toList.length - m) m htail i h (by simp; omega) j (by omega))
                have h0 : ((List.range m).countP fun i => !listed.getD i false) = 0 := List.countP_eq_zero.2 (fun j hj => by simp [this j (List.mem_range.1 hj)])
                omega
            have hoT : (ops.toList.take m)[i]? = some o := by rw [List.getElem?_take, if_pos him]; exact hoL
            obtain ⟨hdok, v, qs', h', hwi, hqs, hval⟩ := e3 i o hoT
            -- whoever conflicts with i is ordered with it
            have hconf : ∀ (j : Nat) oj, j < m → j ≠ i → ops.toList[j]? = some oj → (∃ x, oj.dst = some x ∧ (x ∈ looks (ops.toList.map (·.dst)) o ∨ o.dst = some x)) → (j < i ∧ listed.getD j false = true) ∨ (i < j ∧ listed.getD j false = false) := by
              intro j oj hjm hji hoj ⟨x, hx1, hx2⟩
              have hojT : (ops.toList.take m)[j]? = some oj := by rw [List.getElem?_take, if_pos hjm]; exact hoj
              rcases Nat.lt_or_gt_of_ne hji with hlt | hgt
              · left
                refine ⟨hlt, ?_⟩
                have hap := allPairsB_at (ops.toList.take m) 0 hpairs j i oj o hlt hojT hoT
                simp only [Nat.zero_add, apartB, Bool.or_eq_true, Bool.and_eq_true] at hap
                rcases hap with ha | ⟨ha1, ha2⟩
                · exact hclosed i o hoL h4 hdown rfl j (memB_iff.1 ha)
                · rw [hx1] at ha1
                  simp only [Bool.and_eq_true, Bool.not_eq_true'] at ha1
                  rcases hx2 with h5 | h5
                  · have := memB_iff.2 h5; rw [this] at ha1; simp at ha1
                  · rw [h5] at ha1; simp at ha1
              · right
                refine ⟨hgt, ?_⟩
                have hap := allPairsB_at (ops.toList.take m) 0 hpairs i j o oj hgt hoT hojT
                simp only [Nat.zero_add, apartB, Bool.or_eq_true, Bool.and_eq_true] at hap
                rcases hap with ha | ⟨ha1, ha2⟩
                · cases hv : listed.getD j false with
                  | false => rfl
                  | true =>
                    have := hclosed j oj hoj (hdown j oj hoj hv) hdown rfl i (memB_iff.1 ha)
                    rw [h3] at this; simp at this
                · rcases hx2 with h5 | h5
                  · rw [hx1] at ha2
                    have := memB_iff.2 h5
                    simp [this] at ha2
                  · rw [h5, hx1] at ha1
                    simp at ha1
            -- the operation sees what it saw in the text's order
            have hsame : ∀ x ∈ looks (ops.toList.map (·.dst)) o, lkS (fun _ => true) (fun x => T.lookup x) (ws.take i) 0 x = lkS (fun i => listed.getD i false) (fun x => T.lookup x) ws 0 x := by
              intro x hx
              have hcut := lkS_take ws i (fun x => T.lookup x) 0
              rw [hcut]
              refine lkS_agree ws _ _ 0 rfl (fun j d u hj hd => ?_)
              obtain ⟨oj, hoj, hdj, hjm⟩ := hw1 j d u hj
              simp only [Nat.zero_add]
              by_cases hji : j = i
              · subst hji; simp [h3]
              · rcases hconf j oj hjm hji hoj ⟨x, by rw [hdj]; exact hd, .inl hx⟩ with ⟨g1, g2⟩ | ⟨g1, g2⟩
                · simp [g1, g2]
                · simp [show ¬ j < i by omega, g2]
            have hval' := (evVal_congr (P := P) (tt := tt) (h := h') (H := H1) hsame).symm.trans hval
            unfold wpOpIn
            rw [ho]
            have := evVal_sound (P := P) (N := N) (ro := ro) hT (ops := ops) (Q := fun e a' w' => ∃ T' H', Q e T' H' ∧ Inv N Γ T' H' a' w')
              (next := wpAnyIn (wideAt ro) 0 P .any ops (fun e a' w' => ∃ T' H', Q e T' H' ∧ Inv N Γ T' H' a' w') fuel (listed.setIfInBounds i true)) hval' (fun q hq' => hpm q (List.mem_append_left _ (hqs q hq'))) hW hI
              (fun c w' Z' hg hv => by
                refine ih (listed.setIfInBounds i true) (a.put o.dst c) w' Z' ?_ (by simp [hsz]) ?_ ?_ (hW.grow hg) ?_ fuel (by omega)
                · have hc := count_set (fun j => !listed.getD j false) i m
                  rw [if_pos ⟨him, by simp [h3]⟩, hcount] at hc
                  have hfun : (fun j => !(listed.setIfInBounds i true).getD j false) = fun j => (!listed.getD j false) && j != i := by
                    funext j
                    rw [getD_set (by omega)]
                    by_cases hji : j = i
                    · subst hji; simp
                    · rw [if_neg hji, show (j != i) = true by simpa using hji, Bool.and_true]
                  rw [hfun]
                  omega
                · intro j hj
                  rw [getD_set (by omega), if_neg (by omega)]
                  exact hunt j hj
                · intro j oj hoj hl e he hb
                  rw [getD_set (by omega)] at hl ⊢
                  split
                  · rfl
                  · by_cases hji : j = i
                    · subst hji
                      rw [hoL] at hoj; simp at hoj; subst hoj
                      exact h4 e he hb
                    · rw [if_neg hji] at hl
                      exact hdown j oj hoj hl e he hb
                · have hI2 := (hI.mono (fun _ _ h => h) hg.zs (fun b hb => hg.heap b (hW.zlt b hb))).put hdok hv
                  have hfun : lkS (fun j => (listed.setIfInBounds i true).getD j false) (fun x => T.lookup x) ws 0 = upd (lkS (fun j => listed.getD j false) (fun x => T.lookup x) ws 0) o.dst v := by
                    funext x
                    unfold upd
                    split
                    · rename_i hd
                      refine lkS_last ws _ 0 i v (by rw [hwi, hd]) (by simp only [Nat.zero_add]; rw [getD_set (by omega), if_pos rfl]) (fun j d u hij hj hdx => ?_)
                      obtain ⟨oj, hoj, hdj, hjm⟩ := hw1 j d u hj
                      simp only [Nat.zero_add]
                      rw [getD_set (by omega), if_neg (by omega)]
                      rcases hconf j oj hjm (by omega) hoj ⟨x, by rw [hdj]; exact hdx, .inr hd⟩ with ⟨g1, g2⟩ | ⟨g1, g2⟩
                      · omega
                      · exact g2
                    · rename_i hd
                      refine lkS_agree ws _ _ 0 rfl (fun j d u hj hdx => ?_)
                      simp only [Nat.zero_add]
                      rw [getD_set (by omega), if_neg]
                      intro hji
                      subst hji
                      rw [hwi] at hj
                      simp at hj
                      exact hd (hj.1.trans hdx)
                  rw [hfun]
                  exact hI2)
            simp only []
            split
            · rename_i hw; rw [if_pos hw] at this; exact this
            · rename_i hw; rw [if_neg hw] at this; exact ⟨fun _ _ => trivial, this⟩
        refine bodyw _ (Array.replicate ops.size false) a _ Z rfl (by simp) (fun i _ => ?_) (fun i o _ h => ?_) hdrew ?_ ops.size ?_
        · simp only [Array.getD_eq_getD_getElem?, Array.getElem?_replicate]; split <;> rfl
        · simp only [Array.getD_eq_getD_getElem?, Array.getElem?_replicate] at h
          split at h <;> simp at h
        · rw [lkS_none]
          · exact hI0
          · intro j _
            simp only [Array.getD_eq_getD_getElem?, Array.getElem?_replicate]; split <;> rfl
        · have := List.countP_le_length (p := fun i => !(Array.replicate ops.size false).getD i false) (l := List.range m)
          simp only [List.length_range] at this
          have hll : ops.toList.length = ops.size := by simp
          omega
  · simp at he
end
end Go.Sx
