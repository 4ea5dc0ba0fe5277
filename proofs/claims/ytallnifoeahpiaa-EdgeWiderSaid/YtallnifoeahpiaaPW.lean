/- What tight answers; changes that agree are numbers that keep all steps. -/
import Derived.Test.YtallnifoeahpiaaPV
namespace Go.Proofs.Ytallnifoeahpiaa
open Go Go.Sx
set_option linter.all false


def pf (d:List Int):Int→Int:=fun v=>d[v.toNat]!
theorem get_rep {α:Type} [Inhabited α] {n i:Nat} {x:α} (h:i<n):(List.replicate n x)[i]! = x:=by
 rw [getElem!_pos (List.replicate n x) i (by simpa using h),List.getElem_replicate]
theorem e64L1 {k n:Nat} {c:Cs} (hs:c.Sheets.length=n) (h5:n≤5) (hk:40≤k):F64L1 c.Sheets k (0,List.replicate (n+1) 0)=some (.inr (List.replicate (n+1) 1048576)):=by
 have hw:(w64 ((c.Sheets.length:Int)+1)).toNat=n+1:=by rw [w64_id (by omega) (by omega)];omega
 have h:=for_fold (l:=List.replicate (n+1) (0:Int)) (L:=F64L1 c.Sheets) (β:=List Int×List Sp) (σ:=List Int) (fun i s=>((i:Int),s)) (fun s=>s) (fun i _ s=>s.set i 1048576) (fun i s=>s.length=n+1)
  (fun i s hi hp=>by simp [hp])
  (fun m i s hi hp=>by
   simp only [List.length_replicate] at hi
   rw [F64L1]
   dsimp only
   rw [hw,if_pos (by simp;omega),idx_nat (by omega),Option.bind_some,w64_id (n:=(i:Int)+1) (by omega) (by omega),Int.toNat_natCast];rfl)
  (fun m s _=>by rw [F64L1];dsimp only;rw [hw,if_neg (by simp)]) k (List.replicate (n+1) 0) (by simp) (by simp;omega)
 rw [show ((0:Int),List.replicate (n+1) (0:Int))=(((0:Nat):Int),List.replicate (n+1) 0) from rfl,h]
 have h2:=foldI_inv (l:=List.replicate (n+1) (0:Int)) (fun i _ (s:List Int)=>s.set i 1048576) (fun j s=>s.length=n+1∧∀i,i<j→s[i]? = some 1048576)
  (fun i s hi hp=>by
   simp only [List.length_replicate] at hi
   refine ⟨by simp [hp.1],fun j hj=>?_⟩
   by_cases e:i=j
   ·subst e;rw [List.getElem?_set_self (by omega)]
   ·rw [List.getElem?_set_ne e];exact hp.2 j (by omega)) (List.replicate (n+1) 0) ⟨by simp,fun i hi=>by omega⟩
 congr 2
 apply List.ext_getElem?
 intro i
 by_cases hi:i<n+1
 ·rw [h2.2 i (by simpa using hi)];simp [hi]
 ·rw [List.getElem?_eq_none (by rw [h2.1];omega),List.getElem?_eq_none (by simp;omega)]

theorem e64 {k:Nat} {c:Cs} (hk:40≤k) (hv:Val c) (w:Int) (f:Nat) (hf:f≤c.Sheets.length) (t:Int) (mm:List (List Int×Int)) :
 (∃d:List Int,F64 k f w t c.Sheets c.Edges (wl c) mm=some (d,[])∧d.length=c.Sheets.length+1∧Pot (lsA c w) (pf d)∧d[f]! = 0∧∀y,Pot (lsA c w) y→∀v:Nat,v≤c.Sheets.length→y v-y f≤d[v]!) ∨
 (∃rl b,F64 k f w t c.Sheets c.Edges (wl c) mm=some ([],rl)∧Cyc (lsA c w) rl b∧∀j,0≤b j∧b j≤c.Sheets.length):=by
 have hs:=hv.sheets
 obtain ⟨n,hn⟩:∃n,c.Sheets.length=n:=⟨_,rfl⟩
 have hnd:=nodes hv w
 rw [hn] at hnd hf hs
 have hl:=(mem_lsA hv (w:=w)).2
 have hw1:w64 ((n:Int)+1)=(n:Int)+1:=w64_id (by omega) (by omega)

 let s0:BS:=⟨fun v=>if v=(f:Int) then 0 else 1048576,fun _=>⟨0,0,0,0,0⟩,fun _=>0,fun _=>0,0,-1⟩
 have hb0:Bv (lsA c w) 0 s0:=⟨⟨fun v h=>by simp [s0] at h,fun v h=>by simp [s0] at h,fun v h=>by simp [s0] at h,fun v h=>by simp [s0] at h,fun v=>by simp [s0],fun v=>by simp [s0],fun v w h=>by simp [s0] at h⟩,fun v=>by simp [s0],fun x _ h=>by simp [s0] at h⟩
 have hr0:Rep n s0 (-1,(List.replicate (n+1) 1048576).set f 0,List.replicate (n+1) ⟨0,0,0,0,0⟩):=by
  refine ⟨rfl,by simp,by simp,fun v hv=>?_,fun v hv=>?_⟩
  ·simp only [s0]
   rw [get_set (by simp;omega) (by simp;omega)]
   by_cases e:f=v
   ·rw [if_pos e,if_pos (by omega)]
   ·rw [if_neg e,if_neg (by omega),get_rep (by omega)]
  ·simp only [s0];rw [get_rep (by omega)]
 have hd0:Bd (26*((0:Nat):Int)) s0:=fun v=>by simp only [s0];split<;>omega
 have hw0:Wv (lsA c w) n f s0:=by
  refine ⟨fun y hy v h0 h9=>?_,by simp [s0]⟩
  simp only [s0]
  by_cases e:v=(f:Int)
  ·rw [if_pos e,e];omega
  ·rw [if_neg e]

   have hm:=(mem_lsA hv (w:=w)).1
   have up:∀i:Nat,i<n→y i-y n≤6:=fun i hi=>by
    have h1:=hy (stU c i) ((hm _).2 (.inr ⟨i,by omega,.inl rfl⟩))
    have h2:=most_ok hv (i:=i) (by omega)
    simp only [stU,hn] at h1
    omega
   have dn:∀i:Nat,i<n→y n-y i≤6:=fun i hi=>by
    have h1:=hy (stD c i) ((hm _).2 (.inr ⟨i,by omega,.inr rfl⟩))
    have h2:=most_ok hv (i:=i) (by omega)
    simp only [stD,hn] at h1
    omega
   have a1:y v-y n≤6:=by
    by_cases e2:v=n
    ·rw [e2];omega
    ·have:=up v.toNat (by omega)
     rw [show ((v.toNat:Nat):Int)=v by omega] at this
     exact this
   have a2:y n-y f≤6:=by
    by_cases e2:f=n
    ·rw [e2];omega
    ·exact dn f (by omega)
   omega
 obtain ⟨s',q',h1,h2,h3,h4⟩:=e64L2 hn hs.2 hnd hl hk (f:=f) (n+2) 0 k s0 (-1,(List.replicate (n+1) 1048576).set f 0,List.replicate (n+1) ⟨0,0,0,0,0⟩) (by omega) (by omega) hb0 hr0 hd0 hw0 (.inl rfl)
 have hrun:∀R,(if (decide (q'.1<0)) then ((need (0<q'.2.1.length)).bind fun x26=>some (q'.2.1,([]:List Sp))) else ((F64L4 c.Sheets q' k (q'.1,0)).bind fun o27=>outK o27 (fun (ro27:(List Int)×(List Sp))=>some ro27) (fun (so27:Int)=>(F64L5 q' so27 k (so27,([]:List Sp))).bind fun o33=>outK o33 (fun (ro33:(List Int)×(List Sp))=>some ro33) (fun (so33:(List Sp))=>(need (0<so33.length)).bind fun x40=>some (([]:List Int),so33)))))=R→F64 k f w t c.Sheets c.Edges (wl c) mm=R:=by
  intro R hR
  unfold F64
  rw [e86 (by omega) hv,Option.bind_some,hn,hw1,need_true (by omega),Option.bind_some,need_true (by omega),Option.bind_some,show ((n:Int)+1).toNat=n+1 by omega,e64L1 hn hs.2 hk,Option.bind_some]
  simp only [outK]
  rw [idx_nat (by simp;omega),Option.bind_some,Int.toNat_natCast]
  have h1':F64L2 k c.Sheets (lsA c w) k (-1,0,(List.replicate (n+1) 1048576).set f 0,List.replicate (n+1) ⟨0,0,0,0,0⟩)=_:=h1
  rw [h1',Option.bind_some]
  exact hR
 rcases h4 with ⟨hl1,r',hrv⟩|⟨hl1,hrv⟩
 ·left
  refine ⟨q'.2.1,hrun _ ?_,by rw [h2.dl,hn],?_,?_,?_⟩
  ·rw [if_pos (by simp [h2.lst,hl1]),need_true (by rw [h2.dl];omega),Option.bind_some]
  ·have hst:=hrv.still hl1 (fun x hx=>by have:=hnd.to x hx;omega)
   intro x hx
   have:=hst x hx
   have a1:=hnd.to x hx
   have a2:=hnd.frm x hx
   unfold pf
   rw [h2.dv _ (by omega),h2.dv _ (by omega),show ((x.to_.toNat:Nat):Int)=x.to_ by omega,show ((x.from_.toNat:Nat):Int)=x.from_ by omega]
   omega
  ·have hst:=hrv.still hl1 (fun x hx=>by have:=hnd.to x hx;omega)
   have h5:=h3.1 s'.d (fun x hx=>by have:=hst x hx;omega) f (by omega) (by omega)
   have h6:=h3.2
   rw [h2.dv _ (by omega)]
   omega
  ·intro y hy v hv'
   rw [h2.dv v (by omega)]
   exact h3.1 y hy v (by omega) (by omega)
 ·right
  obtain ⟨L,a1,a2,a3,a4⟩:=comes_round hrv (by omega) (fun x hx=>⟨hnd.frm x hx,hnd.to x hx⟩)
  obtain ⟨M,b1,b2,b3,b4⟩:=least_from (P:=fun j=>back s' j (back s' (n+1) s'.last)=back s' (n+1) s'.last) L a1 a4
  have hst:∀j,j≤M→0<s'.t (back s' j (back s' (n+1) s'.last))∧0≤back s' j (back s' (n+1) s'.last)∧back s' j (back s' (n+1) s'.last)≤n:=fun j hj=>by rw [←back_add];exact a3 _ (by omega)
  have hper:∀j,0≤back s' j (back s' (n+1) s'.last)∧back s' j (back s' (n+1) s'.last)≤n:=by
   intro j
   induction j using Nat.strongRecOn with
   | _ j ih =>
    by_cases hj:j≤M
    ·exact (hst j hj).2
    ·have e:back s' j (back s' (n+1) s'.last)=back s' (j-M) (back s' (n+1) s'.last):=by
      rw [show j=M+(j-M) by omega,back_add,b3,show M+(j-M)-M=j-M by omega]
     rw [e];exact ih (j-M) (by omega)
  refine ⟨(List.range M).map (fun i=>s'.p (back s' i (back s' (n+1) s'.last))),fun j=>back s' j (back s' (n+1) s'.last),hrun _ ?_,?_,fun j=>by rw [hn];exact hper j⟩
  ·have h7:F64L4 c.Sheets q' k (q'.1,0)=_:=e64L4 hn hs.2 h2 (n+1) 0 k q'.1 (by omega) (by omega) (fun j hj=>by rw [h2.lst];exact (a3 j (by omega)).2)
   rw [if_neg (by simp [h2.lst];omega),h7,Option.bind_some]
   simp only [outK]
   have h8:=e64L5 h2 (b:=back s' (n+1) s'.last) (L:=M) ⟨b1,by omega⟩ (fun j hj=>(hst j hj).2) b3 b4 M 0 k (by omega) (by omega)
   rw [List.range_zero,List.map_nil] at h8
   have h9:F64L5 q' (back s' (n+1) s'.last) k (back s' (n+1) s'.last,[])=_:=h8
   rw [h2.lst,h9,Option.bind_some]
   simp only [outK]
   rw [need_true (by simp;omega),Option.bind_some]
  ·have hget:∀j,j<M→((List.range M).map (fun i=>s'.p (back s' i (back s' (n+1) s'.last))))[j]! = s'.p (back s' j (back s' (n+1) s'.last)):=fun j hj=>by
    rw [getElem!_pos _ j (by simpa using hj)];simp
   constructor
   ·simpa using b1
   ·intro j hj
    simp only [List.length_map,List.length_range] at hj
    rw [hget j hj]
    have:=hrv.iv.pin _ (hst j (by omega)).1
    exact ⟨this.1,this.2,(back_succ s' j _).symm⟩
   ·simp only [List.length_map,List.length_range];exact b3
   ·intro i j hij hj he
    simp only [List.length_map,List.length_range] at hj
    refine b4 (i+(M-j)) (by omega) (by omega) ?_
    rw [back_add,he,←back_add,show j+(M-j)=M by omega]
    exact b3
   ·simp only [List.length_map,List.length_range]
    rw [sumN_congr (g:=fun j=>(s'.p (back s' j (back s' (n+1) s'.last))).most) (fun i hi=>by rw [hget i hi]),←wayN_sum]
    exact way_lt hrv.iv hnd.ne b1 (fun j hj=>(hst j (by omega)).1) b3



structure Fe (c:Cs) (w:Int) (x:List Int):Prop where
 box:∀i,i<c.Sheets.length → -c.Sheets[i]!.Most≤x[i]! ∧ x[i]! ≤ c.Sheets[i]!.Most
 eg:∀i,i<c.Edges.length→keep w i=true→lo c i≤x[c.Edges[i]!.A.toNat]! - x[c.Edges[i]!.B.toNat]! ∧ x[c.Edges[i]!.A.toNat]! - x[c.Edges[i]!.B.toNat]! ≤ hi c i
theorem fe_pot {c:Cs} (hv:Val c) {w:Int} {x:List Int} (hn:x[c.Sheets.length]! = 0):Fe c w x↔Pot (lsA c w) (pf x):=by
 have hm:=(mem_lsA hv (w:=w)).1
 constructor
 ·intro h y hy
  rcases (hm y).1 hy with ⟨i,h1,h2,rfl|rfl⟩|⟨i,h1,rfl|rfl⟩
  ·have:=h.eg i h1 h2;simp only [stA,pf];omega
  ·have:=h.eg i h1 h2;simp only [stB,pf];omega
  ·have:=h.box i h1;simp only [stU,pf,Int.toNat_natCast];omega
  ·have:=h.box i h1;simp only [stD,pf,Int.toNat_natCast];omega
 ·intro h
  refine ⟨fun i hi'=>?_,fun i hi' hk=>?_⟩
  ·have a1:=h _ ((hm _).2 (.inr ⟨i,hi',.inl rfl⟩))
   have a2:=h _ ((hm _).2 (.inr ⟨i,hi',.inr rfl⟩))
   simp only [stU,stD,pf,Int.toNat_natCast] at a1 a2
   omega
  ·have a1:=h _ ((hm _).2 (.inl ⟨i,hi',hk,.inl rfl⟩))
   have a2:=h _ ((hm _).2 (.inl ⟨i,hi',hk,.inr rfl⟩))
   simp only [stA,stB,pf] at a1 a2
   omega

def chOf (n:Nat) (y:Int→Int):List Int:=(List.range n).map fun (i:Nat)=>y i-y n
theorem chOf_get {n i:Nat} {y:Int→Int} (h:i<n):(chOf n y)[i]! = y i-y n:=by
 unfold chOf
 rw [getElem!_pos _ i (by simpa using h)];simp
theorem chOf_end {n:Nat} {y:Int→Int}:(chOf n y)[n]! = 0:=by
 unfold chOf
 rw [getElem!_def,List.getElem?_eq_none (by simp)];rfl
theorem chOf_fe {c:Cs} (hv:Val c) {w:Int} {y:Int→Int} (hy:Pot (lsA c w) y):Fe c w (chOf c.Sheets.length y):=by
 rw [fe_pot hv chOf_end]
 have hnd:=nodes hv w
 intro x hx
 have h1:=hnd.frm x hx
 have h2:=hnd.to x hx
 have key:∀v:Int,0≤v→v≤c.Sheets.length→pf (chOf c.Sheets.length y) v=y v-y c.Sheets.length:=by
  intro v a b
  unfold pf
  by_cases e:v=c.Sheets.length
  ·rw [e,Int.toNat_natCast,chOf_end];omega
  ·rw [chOf_get (by omega),show ((v.toNat:Nat):Int)=v by omega]
 rw [key _ h1.1 h1.2,key _ h2.1 h2.2]
 have:=hy x hx
 omega

theorem tight {k:Nat} {c:Cs} (hk:40≤k) (hv:Val c) (w:Int) (f:Nat) (hf:f≤c.Sheets.length) (t:Int) (mm:List (List Int×Int)) :
 (∃d:List Int,F64 k f w t c.Sheets c.Edges (wl c) mm=some (d,[])∧d.length=c.Sheets.length+1∧d[f]! = 0∧Fe c w (chOf c.Sheets.length (pf d))∧∀x,Fe c w x→x[c.Sheets.length]! = 0→∀v:Nat,v≤c.Sheets.length→x[v]! - x[f]! ≤ d[v]!) ∨
 (∃rl b,F64 k f w t c.Sheets c.Edges (wl c) mm=some ([],rl)∧Cyc (lsA c w) rl b∧(∀j,0≤b j∧b j≤c.Sheets.length)∧∀x,¬(Fe c w x∧x[c.Sheets.length]! = 0)):=by
 rcases e64 hk hv w f hf t mm with ⟨d,h1,h2,h3,h4,h5⟩|⟨rl,b,h1,h2,h3⟩
 ·exact .inl ⟨d,h1,h2,h4,chOf_fe hv h3,fun x hx hn v hv'=>h5 _ ((fe_pot hv hn).1 hx) v hv'⟩
 ·exact .inr ⟨rl,b,h1,h2,h3,fun x ⟨hx,hn⟩=>h2.none ((fe_pot hv hn).1 hx)⟩
end Go.Proofs.Ytallnifoeahpiaa
