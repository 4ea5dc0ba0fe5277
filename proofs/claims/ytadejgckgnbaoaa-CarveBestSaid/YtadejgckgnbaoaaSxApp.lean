/- Append to a row that was just made. -/
import Derived.Test.YtadejgckgnbaoaaSxSound5
import Derived.Test.YtadejgckgnbaoaaSxMap
import Derived.Laws.Append
import Derived.Laws.AppendOwn
namespace Go.Sx
open Go
set_option linter.unusedSimpArgs false
set_option linter.unusedVariables false

section
variable {P : Program} {tt : Tab} {bs : Bs} {Z : Nat → Prop} {w : World} {o : Oper} {a : Act} {v : V} {ps : List Prop}

/-- What is appended, as values. -/
theorem src_sound {e : Nat} {x : V} {m : Nat} {src : List D} {c : Value} (hx : RV bs Z w x c) (hs : srcOf e x = some (m, src)) (hl : src.length = m * e) :
    (m = 0 ∧ src = [] ∧ ∃ ad k, c = .slice ad 0 k) ∨ ∃ ad k srcC, c = .slice (some ad) m k ∧ 0 < m ∧ (∀ (j : Nat) u, srcC[j]? = some u → w.cell? (ad.add j) = some u) ∧ RDL Z w src srcC := by
  unfold srcOf at hs
  split at hs
  · split at hs
    · rename_i he
      simp at he hs
      obtain ⟨rfl, rfl⟩ := hs
      subst he
      cases hx with | d _ _ hx =>
      rename_i cells
      cases hx with
      | list0 _ _ ad cap ht => exact .inl ⟨rfl, rfl, ad, cap, rfl⟩
      | list _ _ _ _ ad cap f hn hl' hz hcap ht hcell h1 hr =>
        refine .inr ⟨ad, cap, (List.range cells.length).map f, rfl, hn, fun j u hu => ?_, by simp, fun j x c hx hc => ?_⟩
        · have hj : j < cells.length := by simpa using (List.getElem?_eq_some_iff.1 hu).1
          simp [hj] at hu; subst hu; exact hcell j hj
        · have hj : j < cells.length := (List.getElem?_eq_some_iff.1 hx).1
          simp [hj] at hc
          subst hc
          exact ⟨h1 j hj, hr j x hx⟩
    · simp at hs
  · simp at hs
    obtain ⟨rfl, rfl⟩ := hs
    exact .inl ⟨rfl, rfl, none, 0, hx.lit⟩
  · simp at hs

theorem run_append_none (w : World) (t ty e : TypeId) (i : TypeInfo) (ht : P.underlying t = some (.slice e)) (hi : P.info? e = some i)
    (b : Option Addr) (sLen sCap : Nat) (ad : Option Addr) (k : Nat) (hroom : sLen ≤ sCap) :
    (Builtin.append_ #[t, t] ty #[.slice b sLen sCap, .slice ad 0 k]).run P w = .ok (.slice b sLen sCap) w := by
  cases b <;> cases ad <;> simp [Builtin.append_, run_underlying ht, sizeOf, typeInfo, hi, Builtin.lenOf, hroom, Builtin.firstCells, loadCells, loadCellsFrom, storeCells]

theorem RDL.ofMap {ds : List D} {vs : List V} {cs : List Value} (h : RVL bs Z w vs cs) (e : ds.map .d = vs) : RDL Z w ds cs := by
  subst e; exact h.toD


theorem appendT_sound (hT : Tab.ok P tt) (hzlt : ∀ b, Z b → b < w.heap.size) {c : Call} {s x : Operand} {t : TypeId} {i : TI} {h : Hint} {vs vx : V} (ho : o.op = .call c) (hc : c.callee = .builtin .append) (ha : c.args.toList = [s, x])
    (hty : c.argTypes.toList = [t, t]) (hi : tt.lookup t = some i) (hS : RV bs Z w vs (a.eval s)) (hX : RV bs Z w vx (a.eval x)) (he : evAppendT tt i h vs vx = some (v, ps)) (hp : ∀ p ∈ ps, p) : Yields P bs Z w o a v := by
  obtain ⟨callee, ⟨args⟩, ⟨tys⟩⟩ := c
  simp at ha hty hc
  subst ha; subst hty; subst hc
  have hexec : ∀ (r : Value) (w' : World), (Builtin.append_ #[t, t] o.type #[a.eval s, a.eval x]).run P w = .ok r w' → (execOp a.eval o).run P w = .ok (.value r) w' := by
    intro r w' h1
    simp [execOp, ho, resolve, invoke, builtin, h1]
  unfold evAppendT at he
  split at he
  · rename_i e n cells
    split at he
    · rename_i el k out m src hk hsrc
      simp only [Option.bind_eq_some_iff] at he
      obtain ⟨it, h1, h2⟩ := he
      split at h2
      · rename_i hcond
        simp at hcond
        obtain ⟨hse, he0⟩ := hcond
        simp at h2
        obtain ⟨rfl, rfl⟩ := h2
        obtain ⟨rfl, hxl, hsl, hby, hmx, hout⟩ := hp _ (List.mem_singleton.2 rfl)
        obtain ⟨d, hu, hd2, _⟩ := (hT t i hi).kind
        rw [hk] at hd2
        cases hd2
        obtain ⟨info, z', g1, g2, g3, g4, g5⟩ := (hT el it h1).info
        have hzl := (hT el it h1).zlen
        have hzs : z'.cells.size = e := by rw [← hse, ← hzl, ← g5]; simp
        have his : info.size = e := by rw [g2, hse]
        have hxl' : cells.length = n * e := by simpa using hxl
        have hout' : out = cells ++ src := by
          have : out.map V.d = (cells ++ src).map V.d := by rw [hout, List.map_append]
          exact List.map_inj_right (fun a b h => by injection h) |>.1 this
        have hzlen : ∀ q, (Builtin.zeroCells z'.cells q).toList.length = q * e := fun q => by simp [Builtin.zeroCells, hzs]
        generalize hes : a.eval s = sv at hS hexec
        generalize hex : a.eval x = xv at hX hexec
        -- what a new row comes to
        have goes : ∀ (olds srcC : List Value) (cap : Nat), 0 < m → n + m ≤ cap → RDL Z w cells olds → RDL Z w src srcC → ∀ (zs : List Value),
            (execOp a.eval o).run P w = .ok (.value (.slice (some ⟨w.heap.size, 0, none⟩) (n + m) cap)) (w.drew.alloc (.cells (olds ++ srcC ++ zs).toArray el)) → Yields P bs Z w o a (.d (.list false e (n + m) out)) := by
          intro olds srcC cap hm0 hcap hO hN zs hrun next Q hn
          unfold Oper.wp
          rw [hrun]
          have hg : Grow Z w (fun b => Z b ∨ b = w.heap.size) (w.drew.alloc (.cells (olds ++ srcC ++ zs).toArray el)) := by
            have := Grow.alloc Z w.drew (.cells (olds ++ srcC ++ zs).toArray el)
            exact ⟨this.os, this.tape, this.output, this.size, this.heap, this.zs, this.znew⟩
          refine hn _ _ _ hg (.d _ _ ?_)
          have hh : (w.drew.alloc (.cells (olds ++ srcC ++ zs).toArray el)).heap[w.heap.size]? = some (.cells (olds ++ srcC ++ zs).toArray el (0, 0)) := heap_alloc w.drew _
          have hol : olds.length = cells.length := hO.1
          have hnl : srcC.length = src.length := hN.1
          have hcat : RVL bs Z w ((cells ++ src).map V.d) (olds ++ srcC) := by rw [List.map_append]; exact hO.toV.append hN.toV
          have hcd := hcat.toD
          have hlen : out.length = (olds ++ srcC).length := by rw [hout']; simp [hol, hnl]
          refine .list false e (n + m) out _ cap (fun j => (olds ++ srcC ++ zs).getD j undef) (by omega) (by rw [hout', List.length_append, hxl', hsl, Nat.add_mul]) (.inr rfl) hcap (by simp) (fun j hj => ?_) (fun j hj => ?_) (fun j y hy => ?_)
          · rw [cell_at hh]
            have : j < (olds ++ srcC ++ zs).length := by rw [List.length_append]; omega
            simp only [Nat.zero_add, List.getElem?_toArray, List.getD_eq_getElem?_getD, List.getElem?_eq_getElem this, Option.getD_some]
          · have hj2 : j < (olds ++ srcC).length := by omega
            have hj1 : j < (cells ++ src).length := by rw [← hout']; exact hj
            have := (hcd.2 j _ _ (List.getElem?_eq_getElem hj1) (List.getElem?_eq_getElem hj2)).1
            rw [List.getD_eq_getElem?_getD, List.getElem?_append_left hj2, List.getElem?_eq_getElem hj2]; exact this
          · have hj : j < out.length := (List.getElem?_eq_some_iff.1 hy).1
            have hj2 : j < (olds ++ srcC).length := by omega
            rw [hout'] at hy
            have := (hcd.2 j _ _ hy (List.getElem?_eq_getElem hj2)).2
            rw [List.getD_eq_getElem?_getD, List.getElem?_append_left hj2, List.getElem?_eq_getElem hj2]
            exact this.mono hg.zs (fun b hb => hg.heap b (hzlt b hb))
        rcases src_sound hX hsrc hsl with ⟨rfl, rfl, ad, kk, rfl⟩ | ⟨ad, kk, srcC, rfl, hm0, hnews, hR⟩
        · -- nothing is appended
          rw [List.append_nil] at hout'
          subst hout'
          cases hS with | d _ _ hS =>
          cases hS with
          | list0 _ _ b cap ht =>
            have := ht rfl; subst this
            have hrun := hexec _ _ (run_append_none w t o.type el info hu g1 b 0 0 ad kk (Nat.le_refl _))
            exact Yields.val hrun (.d _ _ (.list0 _ _ _ _ (by simp)))
          | list _ _ _ _ b cap f hn hl hz hcap ht hcell ho1 hr =>
            have hrun := hexec _ _ (run_append_none w t o.type el info hu g1 (some b) n cap ad kk hcap)
            exact Yields.val hrun (.d _ _ (.list _ _ _ _ b cap f hn hl hz hcap (by simp) hcell ho1 hr))
        · have hsC : srcC.length = m * info.size := by rw [hR.1, hsl, his]
          cases hS with | d _ _ hS =>
          cases hS with
          | list0 _ _ b cap ht =>
            have := ht rfl; subst this
            cases b with
            | none =>
              have hrun := run_append_nil (P := P) w t o.type el info z' hu g1 g4 ad m kk srcC hsC hnews hm0 (by omega) (by rw [g3]; rw [Nat.zero_add] at hby; omega)
              have hrun := hexec _ _ hrun
              have hcap := grownCap_ge w m 0 el
              have e4 : (srcC.toArray ++ Builtin.zeroCells z'.cells (grownCap w m 0 el - m)) = (([] ++ srcC ++ (Builtin.zeroCells z'.cells (grownCap w m 0 el - m)).toList : List Value)).toArray := by simp
              rw [e4] at hrun
              exact goes [] srcC (grownCap w m 0 el) hm0 (by omega) ⟨rfl, fun j x c h => by simp at h⟩ hR _ (by simpa using hrun)
            | some b =>
              have hrun := run_append_grow (P := P) w t o.type el info z' hu g1 g4 b 0 0 [] (by simp) (by simp) ad m kk srcC hsC hnews (by omega) (by omega) (growslice_fits (by omega) (by rw [g3]; exact hby))
              have hrun := hexec _ _ hrun
              have hcap' := grownCap_ge w (0 + m) 0 el
              have e4 : (([] : List Value).toArray ++ srcC.toArray ++ Builtin.zeroCells z'.cells (grownCap w (0 + m) 0 el - (0 + m))) = (([] ++ srcC ++ (Builtin.zeroCells z'.cells (grownCap w (0 + m) 0 el - (0 + m))).toList : List Value)).toArray := by
                apply Array.ext'; simp
              rw [e4] at hrun
              exact goes [] srcC _ hm0 hcap' ⟨rfl, fun j x c h => by simp at h⟩ hR _ hrun
          | list _ _ _ _ b cap f hn hl hz hcap ht hcell ho1 hr =>
            have hcn := ht rfl
            have hO : RDL Z w cells ((List.range cells.length).map f) := by
              refine ⟨by simp, fun j x c hx hc => ?_⟩
              have hj : j < cells.length := (List.getElem?_eq_some_iff.1 hx).1
              simp [hj] at hc; subst hc
              exact ⟨ho1 j hj, hr j x hx⟩
            have hrun := run_append_grow (P := P) w t o.type el info z' hu g1 g4 b n cap ((List.range cells.length).map f) (by simp [hxl', his]) (fun j u hu' => by
              have hj : j < cells.length := by have := (List.getElem?_eq_some_iff.1 hu').1; simpa using this
              simp [hj] at hu'; subst hu'; exact hcell j hj) ad m kk srcC hsC hnews (by omega) (by omega) (growslice_fits (by omega) (by rw [g3]; exact hby))
            have hrun := hexec _ _ hrun
            have hcap' := grownCap_ge w (n + m) cap el
            have e4 : (((List.range cells.length).map f).toArray ++ srcC.toArray ++ Builtin.zeroCells z'.cells (grownCap w (n + m) cap el - (n + m))) = (((List.range cells.length).map f ++ srcC ++ (Builtin.zeroCells z'.cells (grownCap w (n + m) cap el - (n + m))).toList : List Value)).toArray := by
              apply Array.ext'; simp
            rw [e4] at hrun
            exact goes _ srcC (grownCap w (n + m) cap el) hm0 hcap' hO hR _ hrun
      · simp at h2
    · simp at he
  · simp at he
end
end Go.Sx
