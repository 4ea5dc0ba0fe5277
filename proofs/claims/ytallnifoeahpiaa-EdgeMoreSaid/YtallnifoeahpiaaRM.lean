/- The law EdgeMore. -/
import Derived.Test.YtallnifoeahpiaaP7
import Derived.Test.YtallnifoeahpiaaDLJ
namespace Go.Proofs.Ytallnifoeahpiaa
open Go Go.Sx
set_option linter.all false

theorem more_point {c:Cs} (h:(chk c).2.2=0) {k:Nat} (hk:k<c.Edges.length) {p:Pt} (hd:(chk ⟨c.Tol,c.Sheets,c.Edges.set k ⟨c.Edges[k]!.A,c.Edges[k]!.B,c.Edges[k]!.Points++[p]⟩⟩).2.2=0) {x:List Int} (hx:Ag ⟨c.Tol,c.Sheets,c.Edges.set k ⟨c.Edges[k]!.A,c.Edges[k]!.B,c.Edges[k]!.Points++[p]⟩⟩ x):Ag c x:=by
 have hv:=chk_val (chk_err h)
 have hw:=chk_val (chk_err hd)
 refine ⟨hx.1,fun i hi=>hx.2.box i hi,fun i hi hkk=>?_⟩
 have hl:i<(c.Edges.set k ⟨c.Edges[k]!.A,c.Edges[k]!.B,c.Edges[k]!.Points++[p]⟩).length:=by simpa using hi
 have h1:=hx.2.eg i (by exact hl) hkk
 have h2:=(want_iff hw (mem_get hl) _).1 h1
 have hg:=get_set (l:=c.Edges) (x:=(⟨c.Edges[k]!.A,c.Edges[k]!.B,c.Edges[k]!.Points++[p]⟩:Eg)) hk hi
 simp only at h2
 rw [hg] at h2
 refine (want_iff hv (mem_get hi) _).2 fun q hq=>?_
 by_cases e:k=i
 ·subst e
  rw [if_pos rfl] at h2
  exact h2 q (List.mem_append_left _ hq)
 ·rw [if_neg e] at h2
  exact h2 q hq

theorem more_edge {c:Cs} (h:(chk c).2.2=0) {y:Eg} (hd:(chk ⟨c.Tol,c.Sheets,c.Edges++[y]⟩).2.2=0) {x:List Int} (hx:Ag ⟨c.Tol,c.Sheets,c.Edges++[y]⟩ x):Ag c x:=by
 refine ⟨hx.1,fun i hi=>hx.2.box i hi,fun i hi hkk=>?_⟩
 have hl:i<(c.Edges++[y]).length:=by simp;omega
 have h1:=hx.2.eg i (by exact hl) hkk
 have hg:(c.Edges++[y])[i]! = c.Edges[i]! := by
  rw [getElem!_pos (c.Edges++[y]) i hl,List.getElem_append_left hi,getElem!_pos c.Edges i hi]
 unfold lo Ytallnifoeahpiaa.hi at h1
 simp only at h1
 rw [hg] at h1
 exact h1
theorem law12 (c:Cs) (y:Eg) (which:S__2quint8) (h0:0≤which.e0∧which.e0≤255) (h1:0≤which.e1∧which.e1≤255):F12 1000 c y which=some true:=by
 unfold F12
 rw [e36 (by omega),Option.bind_some]
 by_cases h:(chk c).2.2=0
 ·have hv:=chk_val (chk_err h)
  have hs:=hv.sheets
  have hm:=hv.edges
  rw [show ((chk c).2.2==0)=true by simpa using h,if_neg (by simp),need_true (by simp only [List.length_nil];omega),Option.bind_some,List.nil_append,i64_id (n:=which.e0) (by omega) (by omega),i64_id (n:=which.e1) (by omega) (by omega)]
  have hpart:∃es:List Eg,(if (cond (decide (which.e0<(c.Edges.length:Int))) (decide ((y.Points.length:Int)>0)) false) then ((idx c.Edges which.e0).bind fun x12=>(need ((([]:List S_api_EdPoint).length+x12.Points.length)*16≤140737488355328∧([]:List S_api_EdPoint).length+x12.Points.length≤9223372036854775807)).bind fun x13=>(idx y.Points 0).bind fun x14=>(need (((([]:List S_api_EdPoint)++x12.Points).length+([x14]:List S_api_EdPoint).length)*16≤140737488355328∧(([]:List S_api_EdPoint)++x12.Points).length+([x14]:List S_api_EdPoint).length≤9223372036854775807)).bind fun x15=>(idx c.Edges which.e0).bind fun x16=>some (.inr (c.Edges.set which.e0.toNat (⟨x16.A,x16.B,((([]:List S_api_EdPoint)++x12.Points)++([x14]:List S_api_EdPoint))⟩:S_api_EdEdge)))) else ((need ((c.Edges.length+([y]:List S_api_EdEdge).length)*40≤140737488355328∧c.Edges.length+([y]:List S_api_EdEdge).length≤9223372036854775807)).bind fun x17=>some (.inr (c.Edges++([y]:List S_api_EdEdge)))):Option (Bool⊕List Eg))=some (.inr es)∧((chk ⟨c.Tol,c.Sheets,es⟩).2.2=0→∀x,Ag ⟨c.Tol,c.Sheets,es⟩ x→Ag c x):=by
   by_cases hc:which.e0<(c.Edges.length:Int)∧(y.Points.length:Int)>0
   ·have hk:which.e0.toNat<c.Edges.length:=by omega
    have he:=hv.eg _ (mem_get hk)
    rw [if_pos (by rw [decide_eq_true hc.1,decide_eq_true hc.2];rfl),idx_bang h0.1 hc.1,Option.bind_some,need_true (by simp only [List.length_nil];omega),Option.bind_some,idx_bang (Int.le_refl _) (by omega),Option.bind_some,need_true (by simp only [List.nil_append,List.length_cons,List.length_nil];omega),Option.bind_some,Option.bind_some,List.nil_append]
    exact ⟨_,rfl,fun hd x hx=>more_point h hk hd hx⟩
   ·rw [if_neg (by
     intro e
     cases a:decide (which.e0<(c.Edges.length:Int)) with
     | false=>rw [a] at e;simp at e
     | true=>rw [a] at e;exact hc ⟨of_decide_eq_true a,of_decide_eq_true e⟩),need_true (by simp only [List.length_cons,List.length_nil];omega),Option.bind_some]
    exact ⟨_,rfl,fun hd x hx=>more_edge h hd hx⟩
  obtain ⟨es,e1,e2⟩:=hpart
  rw [e1,Option.bind_some,outK_inr,e36 (by omega),Option.bind_some]
  generalize hdd:(⟨c.Tol,c.Sheets,es⟩:S_api_EdCase)=d at e2 ⊢
  have hds:d.Sheets=c.Sheets:=by rw [←hdd]
  by_cases hd:(chk d).2.2=0
  ·have hag:=e2 hd
   obtain ⟨i0,i1⟩:=tmod_in (n:=which.e1) (m:=(c.Sheets.length:Int)) h1.1 (by omega)
   rw [show ((chk d).2.2==0)=true by simpa using hd,if_neg (by simp),need_true (by omega),Option.bind_some]
   obtain ⟨r,r1,r2⟩:=range_in (k:=1000) (by omega) h i0 i1
   obtain ⟨q,q1,q2⟩:=range_in (k:=1000) (by omega) hd i0 (by rw [hds];exact i1)
   obtain ⟨s,s1,s2⟩:=least_in (k:=1000) (by omega) h
   obtain ⟨u,u1,u2⟩:=least_in (k:=1000) (by omega) hd
   rw [r1,Option.bind_some,q1,Option.bind_some,s1,Option.bind_some,u1,Option.bind_some]
   have hcost:∀x,cost d x=cost c x:=fun x=>by unfold cost;rw [hds]
   rcases q2 with ⟨q3,rfl⟩|⟨q3,⟨x,x1,x2⟩,⟨z,z1,z2⟩,q4⟩
   ·rw [if_pos (by simp)]
    rcases u2 with ⟨_,rfl⟩|⟨_,_,u3,_⟩
    ·rcases r2 with ⟨r3,rfl⟩|⟨r3,⟨w,w1,_⟩,_⟩
     ·rcases s2 with ⟨_,rfl⟩|⟨_,_,s3,_⟩
      ·simp only [awake];rfl
      ·exact absurd s3 (r3 _)
     ·rcases s2 with ⟨s3,_⟩|⟨s3,_⟩
      ·exact absurd w1 (s3 _)
      ·simp only [r3,s3,awake];rfl
    ·exact absurd u3 (q3 _)
   ·rcases u2 with ⟨u3,_⟩|⟨u4,u5,u3,u6⟩
    ·exact absurd x1 (u3 _)
    ·rcases r2 with ⟨r3,_⟩|⟨r3,_,_,r4⟩
     ·exact absurd (hag x x1) (r3 _)
     ·rcases s2 with ⟨s3,_⟩|⟨s4,s5,s3,s6⟩
      ·exact absurd (hag x x1) (s3 _)
      ·rw [if_neg (by simp [q3])]
       have a1:=r4 x (hag x x1)
       have a2:=r4 z (hag z z1)
       have a3:=(s6 _ (hag _ u3)).1
       have a4:=hcost u.1
       unfold F12e1
       rw [r3,s4,u4,decide_eq_true (show q.1.Lo≥r.1.Lo by omega),decide_eq_true (show q.1.Hi≤r.1.Hi by omega),decide_eq_true (show u.2.1≥s.2.1 by omega)]
       simp only [awake];rfl
  ·rw [show ((chk d).2.2==0)=false by simpa using hd,if_pos (by rfl),awake]
   rfl
 ·rw [show ((chk c).2.2==0)=false by simpa using h,if_pos (by rfl),awake]
  rfl
end Go.Proofs.Ytallnifoeahpiaa
