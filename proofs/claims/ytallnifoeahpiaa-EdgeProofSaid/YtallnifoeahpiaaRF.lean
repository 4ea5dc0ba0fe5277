/- What Bound of the reference answers. -/
import Derived.Test.YtallnifoeahpiaaR7
import Derived.Test.YtallnifoeahpiaaDRB
namespace Go.Proofs.Ytallnifoeahpiaa
open Go Go.Sx
set_option linter.all false

theorem e41 {k:Nat} {c:Cs} (hk:10≤k) (hv:Val c):F41 k c=some (soundB c):=by
 have hm:=hv.edges
 have h:=for_loop (l:=c.Edges) (L:=F41L1 k c) (β:=Bool) (γ:=Unit) (σ:=Unit) (fun i _=>(i:Int)) (fun s=>s) (fun _ x _=>if decide ((want c x).1≤(want c x).2) then .inr () else .inl false) (fun _ _=>True) (fun _ _ _ _ _ _=>trivial)
  (fun n i s hi _=>by
   rw [F41L1,if_pos (by simp;omega),idx_nat hi,Option.bind_some,e58 (by omega) hv (mem_get hi),Option.bind_some,w64_id (n:=(i:Int)+1) (by omega) (by omega)]
   cases decide ((want c c.Edges[i]!).1≤(want c c.Edges[i]!).2)<;>rfl)
  (fun n s _=>by rw [F41L1,if_neg (by simp)]) k () trivial (by omega)
 have hr:∀(l:List Eg) (i:Nat),runE (β:=Bool) (fun _ (x:Eg) (_:Unit)=>if decide ((want c x).1≤(want c x).2) then .inr () else .inl false) l i ()=if l.all (fun x=>decide ((want c x).1≤(want c x).2)) then .inr () else .inl false:=by
  intro l
  induction l with
  | nil=>intro i;rfl
  | cons x l ih =>
   intro i
   rw [runE,List.all_cons]
   cases decide ((want c x).1≤(want c x).2) with
   | true=>simp only [if_true,Bool.true_and];exact ih (i+1)
   | false=>rfl
 unfold F41
 rw [show (0:Int)=((0:Nat):Int) from rfl,h,Option.bind_some,hr]
 unfold soundB
 cases c.Edges.all (fun x=>decide ((want c x).1≤(want c x).2))<;>rfl
theorem e31L1 {p:List Int} (h62:p.length<2^62):∀(suf pre:List Int) (n:Nat),p=pre++suf→suf.length<n→F31L1 p n (0,(pre.length:Int))=some (.inr (if suf.all (okN (-100000) 100000) then 0 else 7)):=by
 intro suf
 induction suf with
 | nil =>
  intro pre n h hn
  obtain ⟨n,rfl⟩:∃q,n=q+1:=⟨n-1,by simp at hn;omega⟩
  rw [List.append_nil] at h;subst h
  rw [F31L1,if_neg (by simp)];rfl
 | cons x suf ih =>
  intro pre n h hn
  obtain ⟨n,rfl⟩:∃q,n=q+1:=⟨n-1,by simp at hn;omega⟩
  have hl:p.length=pre.length+suf.length+1:=by rw [h];simp;omega
  have hx:idx p (pre.length:Int)=some x:=by rw [h];exact idx_mid rfl
  rw [F31L1]
  dsimp only
  rw [if_pos (by simp;omega),hx,Option.bind_some,e54,Option.bind_some,w64_id (by omega) (by omega),List.all_cons]
  cases okN (-100000) 100000 x with
  | true =>
   simp only [Bool.not_true,Bool.false_eq_true,if_false,Bool.true_and]
   have:=ih (pre++[x]) n (by simp [h]) (by simp at hn;omega)
   simpa using this
  | false =>
   simp only [Bool.not_false,if_true,Bool.false_and]
   obtain ⟨n,rfl⟩:∃q,n=q+1:=⟨n-1,by simp at hn;omega⟩
   rw [F31L1,if_neg (by simp)]
   rfl
theorem e31L1' {p:List Int} {n:Nat} {e:Int} (he:e≠0) (hn:0<n):F31L1 p n (e,0)=some (.inr e):=by
 obtain ⟨n,rfl⟩:∃q,n=q+1:=⟨n-1,by omega⟩
 rw [F31L1]
 dsimp only
 rw [if_neg (by rw [show (e==0)=false by simpa using he];cases decide ((0:Int)<(p.length:Int))<;>simp)]
theorem e31L2 {k:Nat} {c:Cs} (hk:10≤k) (hv:Val c) {p:List Int} (hp:okPr p) (hl:p.length=c.Edges.length):F31L2 k c p k (0,0)=some (.inr (sumN c.Edges.length (cnt c p))):=by
 have hm:=hv.edges
 have h:=for_fold (l:=p) (L:=F31L2 k c p) (β:=Int×Int) (σ:=Int) (fun i s=>(s,(i:Int))) (fun s=>s) (fun i _ s=>s+cnt c p i) (fun i s=>s=sumN i (cnt c p))
  (fun i s hi hs=>by rw [hs,sumN])
  (fun n i s hi hs=>by
   have hi':i<c.Edges.length:=by omega
   have hb:=cnts_bd hv hp hl i (by omega)
   have hc:=cnt_bd hv hp hl hi'
   rw [F31L2]
   dsimp only
   rw [if_pos (by simp;omega),idx_nat hi',Option.bind_some,e58 (by omega) hv (mem_get hi'),Option.bind_some,idx_nat hi,Option.bind_some,Option.bind_some,w64_id (n:=(i:Int)+1) (by omega) (by omega)]
   by_cases hpos:p[i]! > 0
   ·have hcn:cnt c p i=p[i]! * lo c i:=if_pos hpos
    rw [if_pos (decide_eq_true hpos)]
    show F31L2 k c p n (w64 (s+w64 (p[i]! * lo c i)),(i:Int)+1)=_
    rw [w64_id (n:=p[i]! * lo c i) (by omega) (by omega),w64_id (n:=s+_) (by omega) (by omega),hcn]
    rfl
   ·have hcn:cnt c p i=p[i]! * Ytallnifoeahpiaa.hi c i:=if_neg hpos
    rw [if_neg (by rw [decide_eq_false hpos];simp),Option.bind_some]
    show F31L2 k c p n (w64 (s+w64 (p[i]! * Ytallnifoeahpiaa.hi c i)),(i:Int)+1)=_
    rw [w64_id (n:=p[i]! * Ytallnifoeahpiaa.hi c i) (by omega) (by omega),w64_id (n:=s+_) (by omega) (by omega),hcn]
    rfl)
  (fun n s _=>by rw [F31L2,if_neg (by simp)]) k 0 rfl (by omega)
 have h2:=foldI_inv (l:=p) (fun i (_:Int) (s:Int)=>s+cnt c p i) (fun i s=>s=sumN i (cnt c p)) (fun i s hi hs=>by rw [hs,sumN]) 0 rfl
 have h3:F31L2 k c p k (0,0)=_:=h
 rw [h3,h2,hl]
theorem e70 {k:Nat} {c:Cs} (hk:10≤k) (hv:Val c) {p:List Int} (hp:okPr p) (hl:p.length=c.Edges.length):∃g,F70 k c p=some g∧g.length=c.Sheets.length∧∀j,j<c.Sheets.length→g[j]! = gv c p j:=by
 have hs:=hv.sheets
 have hm:=hv.edges
 have hP:∀(i:Nat) (s:List Int),i<c.Edges.length→(s.length=c.Sheets.length∧∀j,j<c.Sheets.length→s[j]! = gvp c p i j)→((gstep c p i s).length=c.Sheets.length∧∀j,j<c.Sheets.length→(gstep c p i s)[j]! = gvp c p (i+1) j):=fun i s hi h=>gstep_ok hv (Nat.le_refl _) hi h
 have h0:(List.replicate c.Sheets.length (0:Int)).length=c.Sheets.length∧∀j,j<c.Sheets.length→(List.replicate c.Sheets.length (0:Int))[j]! = gvp c p 0 j:=⟨by simp,fun j hj=>by rw [get_rep hj];rfl⟩
 have h:=for_fold (l:=c.Edges) (L:=F70L1 c p) (β:=List Int) (σ:=List Int) (fun i s=>((i:Int),s)) (fun s=>s) (fun i _ s=>gstep c p i s) (fun i s=>s.length=c.Sheets.length∧∀j,j<c.Sheets.length→s[j]! = gvp c p i j)
  (fun i s hi h=>hP i s hi h)
  (fun n i s hi h=>by
   have he:=ends hv hi
   have hne:=(hv.eg _ (mem_get hi)).2.2.2.2.1
   have hpi:=hp _ (mem_get (l:=p) (i:=i) (by omega))
   have gA:=h.2 c.Edges[i]!.A.toNat (by omega)
   have gB:=h.2 c.Edges[i]!.B.toNat (by omega)
   have bA:=gvp_bd hv hp hl c.Edges[i]!.A.toNat i (by omega)
   have bB:=gvp_bd hv hp hl c.Edges[i]!.B.toNat i (by omega)
   have hsl:=h.1
   have hset:∀y,(s.set c.Edges[i]!.A.toNat y)[c.Edges[i]!.B.toNat]! = s[c.Edges[i]!.B.toNat]! := fun y=>by rw [get_set (by omega) (by omega),if_neg (by omega)]
   rw [F70L1]
   dsimp only
   rw [if_pos (by simp;omega),idx_nat hi,Option.bind_some,Option.bind_some,idx_bang (l:=s) (by omega) (by omega),Option.bind_some,idx_nat (l:=p) (by omega)]
   simp only [Option.bind_some]
   rw [w64_id (n:=s[c.Edges[i]!.A.toNat]! + p[i]!) (by omega) (by omega),idx_bang (by omega) (by rw [List.length_set];omega),Option.bind_some,Option.bind_some,hset,w64_id (n:=s[c.Edges[i]!.B.toNat]! - p[i]!) (by omega) (by omega),w64_id (n:=(i:Int)+1) (by omega) (by omega)]
   rfl)
  (fun n s _=>by rw [F70L1,if_neg (by simp)]) k (List.replicate c.Sheets.length 0) h0 (by omega)
 have h2:=foldI_inv (l:=c.Edges) (fun i (_:Eg) (s:List Int)=>gstep c p i s) (fun i s=>s.length=c.Sheets.length∧∀j,j<c.Sheets.length→s[j]! = gvp c p i j) (fun i s hi h=>hP i s hi h) (List.replicate c.Sheets.length 0) h0
 refine ⟨_,?_,h2⟩
 unfold F70
 rw [need_true (by omega),Option.bind_some,Int.toNat_natCast]
 have h3:F70L1 c p k (0,List.replicate c.Sheets.length 0)=_:=h
 rw [h3,Option.bind_some]
 rfl
theorem e31L3 {k:Nat} {c:Cs} (hk:10≤k) (hv:Val c) {g:List Int} {n0:Int} (hn : -15000000000≤n0∧n0≤15000000000) (hgl:g.length=c.Sheets.length) (hg:∀j,j<c.Sheets.length → -800000≤g[j]! ∧ g[j]! ≤ 800000):F31L3 c g k (n0,0)=some (.inr (n0-sumN c.Sheets.length (off c fun j=>g[j]!))):=by
 have hs:=hv.sheets
 have h:=for_fold (l:=g) (L:=F31L3 c g) (β:=Int×Int) (σ:=Int) (fun i s=>(s,(i:Int))) (fun s=>s) (fun i _ s=>s-off c (fun j=>g[j]!) i) (fun i s=>s=n0-sumN i (off c fun j=>g[j]!))
  (fun i s hi hp=>by rw [hp,sumN];omega)
  (fun n i s hi hp=>by
   have hi':i<c.Sheets.length:=by omega
   have hmo:=most_ok hv hi'
   have hgi:=hg i hi'
   have hb:0≤sumN i (off c fun j=>g[j]!)∧sumN i (off c fun j=>g[j]!)≤4800000*i:=offs_bd hv (g:=fun j=>g[j]!) hg i (by omega)
   have hb2:0≤off c (fun j=>g[j]!) i∧off c (fun j=>g[j]!) i≤4800000:=off_bd hv (g:=fun j=>g[j]!) hi' hgi
   have ha:=absI_nonneg g[i]!
   have ha2:absI g[i]! ≤ 800000:=absI_le.2 hgi
   rw [F31L3]
   dsimp only
   rw [if_pos (by simp;omega),idx_nat hi',Option.bind_some,idx_nat hi,Option.bind_some,e71 (by omega) (by omega),Option.bind_some,Option.bind_some,w64_id (n:=(i:Int)+1) (by omega) (by omega),w64_id (n:=absI g[i]! - c.Sheets[i]!.Weight) (by omega) (by omega)]
   show F31L3 c g n (w64 (s-w64 (off c (fun j=>g[j]!) i)),(i:Int)+1)=_
   rw [w64_id (n:=off c (fun j=>g[j]!) i) (by omega) (by omega),w64_id (n:=s-_) (by omega) (by omega)]
   rfl)
  (fun n s _=>by rw [F31L3,if_neg (by simp)]) k n0 (by simp [sumN]) (by omega)
 have h2:=foldI_inv (l:=g) (fun i (_:Int) (s:Int)=>s-off c (fun j=>g[j]!) i) (fun i s=>s=n0-sumN i (off c fun j=>g[j]!)) (fun i s hi hp=>by rw [hp,sumN];omega) n0 (by simp [sumN])
 have h3:F31L3 c g k (n0,0)=_:=h
 rw [h3,h2,hgl]
theorem e31 {k:Nat} (hk:20≤k) (c:Cs) (p:List Int):F31 k c p=some (boundE c p):=by
 unfold F31 boundE
 rw [e17 (by omega),Option.bind_some]
 by_cases h:(chk c).2.2=0
 ·have hv:=chk_val (chk_err h)
  have hs:=hv.sheets
  have hm:=hv.edges
  rw [show ((chk c).2.2==0)=true by simpa using h,cond_true,if_neg (show ¬((chk c).2.2 != 0)=true by simpa using h)]
  by_cases hl:p.length=c.Edges.length
  ·rw [if_neg (by simp [hl]),if_pos hl,Option.bind_some]
   simp only [outK]
   rw [h,show F31L1 p k (0,0)=_ from e31L1 (by omega) p [] k rfl (by omega),Option.bind_some]
   simp only
   cases ha:p.all (okN (-100000) 100000) with
   | false=>rfl
   | true =>
    simp only [if_true,beq_self_eq_true,optG_true,cond_true]
    rw [e41 (by omega) hv,Option.bind_some]
    cases hsd:soundB c with
    | false=>rfl
    | true =>
     obtain ⟨g,g1,g2,g3⟩:=e70 (k:=k) (by omega) hv (okPr_iff.1 ha) hl
     have hb:=gv_bd hv (okPr_iff.1 ha) hl
     simp only [Bool.not_true,Bool.false_eq_true,if_false,if_true,Option.bind_some]
     rw [if_neg (by simp),e31L2 (by omega) hv (okPr_iff.1 ha) hl,Option.bind_some]
     simp only
     rw [g1,Option.bind_some,e31L3 (by omega) hv (cnts_bd' hv (okPr_iff.1 ha) hl) g2 (fun j hj=>by rw [g3 j hj];exact hb j),Option.bind_some]
     simp only
     unfold bound
     rw [sumN_congr (f:=off c fun j=>g[j]!) (g:=off c (gv c p)) fun j hj=>off_congr (g3 j hj)]
  ·rw [if_pos (by simp;omega),if_neg hl,Option.bind_some]
   simp only [outK]
   rw [e31L1' (by omega) (by omega),Option.bind_some]
   rfl
 ·have hb:((chk c).2.2==0)=false:=by simpa using h
  rw [hb,cond_false,if_neg (by simp),Option.bind_some]
  simp only [outK]
  rw [e31L1' h (by omega),Option.bind_some,if_pos (show ((chk c).2.2 != 0)=true by simpa using h)]
  simp only [hb,optG_false,cond_false,Option.bind_some,Bool.false_eq_true,if_false]
  rw [if_pos (show ((chk c).2.2 != 0)=true by simpa using h)]
end Go.Proofs.Ytallnifoeahpiaa
