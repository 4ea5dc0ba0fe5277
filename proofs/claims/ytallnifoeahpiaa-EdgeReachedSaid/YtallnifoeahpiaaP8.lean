/- The law EdgeReached. -/
import Derived.Test.YtallnifoeahpiaaP7
import Derived.Test.YtallnifoeahpiaaDLI
namespace Go.Proofs.Ytallnifoeahpiaa
open Go Go.Sx
set_option linter.all false

def onlyC (c:Cs) (i:Nat) (m:Int):Cs:=⟨c.Tol,c.Sheets.set i ⟨c.Sheets[i]!.Name,c.Sheets[i]!.Weight,m⟩,c.Edges⟩
theorem onlyC_get {c:Cs} {i j:Nat} {m:Int} (hi:i<c.Sheets.length) (hj:j<c.Sheets.length):(onlyC c i m).Sheets[j]! = if i=j then ⟨c.Sheets[i]!.Name,c.Sheets[i]!.Weight,m⟩ else c.Sheets[j]! := get_set hi hj
theorem onlyC_chk {c:Cs} (h:(chk c).2.2=0) {i:Nat} (hi:i<c.Sheets.length) {m:Int} (h0:0≤m) (h1:m≤6):(chk (onlyC c i m)).2.2=0:=by
 have hc:=chk_zero.1 h
 have hl:(onlyC c i m).Sheets.length=c.Sheets.length:=by simp [onlyC]
 refine chk_zero.2 ⟨hc.1,by rw [hl];exact hc.2.1,hc.2.2.1,?_,fun s hs=>?_,by rw [hl];exact hc.2.2.2.2.2⟩
 ·have:(onlyC c i m).Sheets.map (·.Name)=c.Sheets.map (·.Name):=by
   apply List.ext_getElem (by simp [onlyC])
   intro j a b
   simp only [List.length_map] at b
   simp only [onlyC,List.getElem_map,List.getElem_set]
   split
   ·rename_i e
    subst e
    rw [getElem!_pos c.Sheets i hi]
   ·rfl
  rw [this]
  exact hc.2.2.2.1
 ·obtain ⟨j,hj,rfl⟩:=List.getElem_of_mem hs
  have hj':j<c.Sheets.length:=by rw [←hl];exact hj
  have e:=onlyC_get (m:=m) hi hj'
  rw [getElem!_pos _ j hj] at e
  rw [e]
  split
  ·have:=hc.2.2.2.2.1 _ (mem_get hi)
   simp only
   omega
  ·exact hc.2.2.2.2.1 _ (mem_get hj')
theorem onlyC_ag {c:Cs} {i:Nat} (hi:i<c.Sheets.length) {m:Int} (hm:m≤c.Sheets[i]!.Most) {x:List Int}:Ag (onlyC c i m) x↔Ag c x ∧ -m≤x[i]! ∧ x[i]! ≤ m:=by
 have hl:(onlyC c i m).Sheets.length=c.Sheets.length:=by simp [onlyC]
 constructor
 ·rintro ⟨h1,h2⟩
  have hb:=h2.box i (by omega)
  rw [onlyC_get hi hi,if_pos rfl] at hb
  refine ⟨⟨by omega,fun j hj=>?_,fun j hj hk=>h2.eg j hj hk⟩,hb⟩
  have:=h2.box j (by omega)
  rw [onlyC_get hi hj] at this
  by_cases e:i=j
  ·subst e;rw [if_pos rfl] at this;simp only at this;omega
  ·rw [if_neg e] at this;exact this
 ·rintro ⟨⟨h1,h2⟩,h3⟩
  refine ⟨by omega,fun j hj=>?_,fun j hj hk=>h2.eg j hj hk⟩
  rw [hl] at hj
  rw [onlyC_get hi hj]
  by_cases e:i=j
  ·subst e;rw [if_pos rfl];exact h3
  ·rw [if_neg e];exact h2.box j hj
theorem e46 {c:Cs} (hv:Val c) {i:Nat} (hi:i<c.Sheets.length) {v:Int} (h : -6≤v∧v≤6):F46 c (i:Int) v=some (onlyC c i (absI v)):=by
 have hs:=hv.sheets
 unfold F46
 rw [need_true (by simp only [List.length_nil];omega),Option.bind_some,List.nil_append,idx_nat hi,Option.bind_some,w64_id (by omega) (by omega),Int.toNat_natCast]
 rfl
theorem law11 (c:Cs) (which n:Int) (hw:0≤which∧which≤255) (hn:0≤n∧n≤255):F11 1000 c which n=some true:=by
 unfold F11
 rw [e36 (by omega),Option.bind_some]
 by_cases h:(chk c).2.2=0
 ·have hv:=chk_val (chk_err h)
  have hs:=hv.sheets
  have hb:((chk c).2.2==0)=true:=by simpa using h
  obtain ⟨i0,i1⟩:=tmod_in (n:=which) (m:=(c.Sheets.length:Int)) hw.1 (by omega)
  rw [hb,if_neg (by simp),need_true (by omega),Option.bind_some,i64_id (n:=which) (by omega) (by omega),i64_id (n:=n) (by omega) (by omega)]
  generalize which.tmod (c.Sheets.length:Int)=iz at i0 i1
  obtain ⟨i,rfl⟩:∃i:Nat,iz=(i:Int):=⟨iz.toNat,by omega⟩
  have hi:i<c.Sheets.length:=by omega
  have hmo:=most_ok hv hi
  obtain ⟨r,r1,r2⟩:=range_in (k:=1000) (by omega) h i0 i1
  rw [r1,Option.bind_some]
  rcases r2 with ⟨r3,rfl⟩|⟨r3,⟨x,x1,x2⟩,⟨y,y1,y2⟩,r4⟩
  ·rw [if_pos (by simp)]
   simp only [beq_self_eq_true,optG_true,cond_true,F35,Option.bind_some,Bool.and_self,awake]
  ·rw [Int.toNat_natCast] at x2 y2 r4
   obtain ⟨t0,t1⟩:=tmod_in (n:=n) (m:=2*c.Sheets[i]!.Most+1) hn.1 (by omega)
   have ww:w64 (w64 (2*c.Sheets[i]!.Most)+1)=2*c.Sheets[i]!.Most+1:=by rw [w64_id (n:=2*c.Sheets[i]!.Most) (by omega) (by omega),w64_id (by omega) (by omega)]
   have wv:w64 (n.tmod (2*c.Sheets[i]!.Most+1)-c.Sheets[i]!.Most)=n.tmod (2*c.Sheets[i]!.Most+1)-c.Sheets[i]!.Most:=w64_id (by omega) (by omega)
   have xb:=x1.2.box i hi
   have yb:=y1.2.box i hi
   have xy:=(r4 x x1).2
   rw [if_neg (by simp [r3]),idx_nat hi,Option.bind_some,ww,need_true (by omega),Option.bind_some,wv,w64_id (n:=0-c.Sheets[i]!.Most) (by omega) (by omega)]
   rw [if_neg (by rw [decide_eq_false (by omega),decide_eq_false (by omega),decide_eq_false (by omega)];simp)]
   have f1:F11e1 n c.Sheets[i]! r=(decide (n.tmod (2*c.Sheets[i]!.Most+1)-c.Sheets[i]!.Most≥r.1.Lo)&&decide (n.tmod (2*c.Sheets[i]!.Most+1)-c.Sheets[i]!.Most≤r.1.Hi)):=by
    unfold F11e1
    rw [i64_id (n:=n) (by omega) (by omega),ww,wv]
    cases decide (n.tmod (2*c.Sheets[i]!.Most+1)-c.Sheets[i]!.Most≥r.1.Lo)<;>rfl
   have f2:F11e2 n c.Sheets[i]! = absI (n.tmod (2*c.Sheets[i]!.Most+1)-c.Sheets[i]!.Most):=by
    unfold F11e2
    rw [i64_id (n:=n) (by omega) (by omega),ww,wv,w64_id (by omega) (by omega)]
    rfl
   unfold F11e3
   rw [f1,f2,i64_id (n:=n) (by omega) (by omega),ww,wv]
   have hv1 : -c.Sheets[i]!.Most≤n.tmod (2*c.Sheets[i]!.Most+1)-c.Sheets[i]!.Most∧n.tmod (2*c.Sheets[i]!.Most+1)-c.Sheets[i]!.Most≤c.Sheets[i]!.Most:=by omega
   clear f1 f2 wv
   generalize n.tmod (2*c.Sheets[i]!.Most+1)-c.Sheets[i]!.Most=v at hv1 ⊢
   have ha0:=absI_nonneg v
   have ha1:absI v≤c.Sheets[i]!.Most:=absI_le.2 hv1
   have ha2:(absI v=v∨absI v = -v)∧v≤absI v ∧ -v≤absI v:=by unfold absI;omega
   have hch:=onlyC_chk h hi ha0 (by omega:absI v≤6)
   rw [e46 hv hi (by omega),Option.bind_some]
   have hlen:(onlyC c i (absI v)).Sheets.length=c.Sheets.length:=by simp [onlyC]
   obtain ⟨q,q1,q2⟩:=range_in (k:=1000) (by omega) hch i0 (by rw [hlen];exact i1)
   rw [show (⟨(onlyC c i (absI v)).Tol,(onlyC c i (absI v)).Sheets,(onlyC c i (absI v)).Edges⟩:S_api_EdCase)=onlyC c i (absI v) from rfl,q1,Option.bind_some,w64_id (n:=0-absI v) (by omega) (by omega)]
   simp only [F35,Option.bind_some]
   generalize hlo:(if 0-absI v>r.1.Lo then 0-absI v else r.1.Lo)=lo'
   generalize hhi:(if absI v<r.1.Hi then absI v else r.1.Hi)=hi'
   have hlo':lo'=max r.1.Lo (-absI v):=by rw [←hlo];omega
   have hhi':hi'=min r.1.Hi (absI v):=by rw [←hhi];omega

   have hreach:∀u,lo'≤u→u≤hi'→∃z,Ag (onlyC c i (absI v)) z∧z[i]! = u:=fun u u1 u2=>by
    obtain ⟨z,z1,z2⟩:=ag_between hv x1 y1 hi (v:=u) (by omega) (by omega)
    exact ⟨z,(onlyC_ag hi ha1).2 ⟨z1,by omega⟩,z2⟩
   by_cases hgt:lo'>hi'
   ·rw [if_pos (decide_eq_true hgt)]
    have hno:∀z,¬Ag (onlyC c i (absI v)) z:=fun z hz=>by
     have h1:=(onlyC_ag hi ha1).1 hz
     have h2:=r4 z h1.1
     omega
    rcases q2 with ⟨_,rfl⟩|⟨_,⟨z,z1,_⟩,_⟩
    ·have hwn:(decide (v≥r.1.Lo)&&decide (v≤r.1.Hi))=false:=by
      rw [Bool.and_eq_false_iff,decide_eq_false_iff_not,decide_eq_false_iff_not];omega
     rw [hwn]
     simp only [beq_self_eq_true,cond_true,Bool.not_false,optG_true,awake,Option.bind_some]
    ·exact absurd z1 (hno z)
   ·rw [if_neg (by rw [decide_eq_false hgt];simp)]
    rcases q2 with ⟨q3,_⟩|⟨q3,⟨z,z1,z2⟩,⟨u,u1,u2⟩,q4⟩
    ·obtain ⟨z,z1,_⟩:=hreach lo' (by omega) (by omega)
     exact absurd z1 (q3 z)
    ·rw [Int.toNat_natCast] at z2 u2 q4
     obtain ⟨z',a1,a2⟩:=hreach lo' (by omega) (by omega)
     obtain ⟨u',b1,b2⟩:=hreach hi' (by omega) (by omega)
     have c1:=q4 z' a1
     have c2:=q4 u' b1
     have d1:=(onlyC_ag hi ha1).1 z1
     have d2:=(onlyC_ag hi ha1).1 u1
     have d3:=r4 z d1.1
     have d4:=r4 u d2.1
     have el:q.1.Lo=lo':=by omega
     have eh:q.1.Hi=hi':=by omega
     have hwn:(cond (cond (!(decide (v≥r.1.Lo)&&decide (v≤r.1.Hi))) true (v==lo')) true (v==hi'))=true:=by
      by_cases hin:v≥r.1.Lo∧v≤r.1.Hi
      ·by_cases hp:v=lo'
       ·rw [show (v==lo')=true by simpa using hp]
        cases (!(decide (v≥r.1.Lo)&&decide (v≤r.1.Hi)))<;>rfl
       ·rw [show (v==hi')=true by simp;omega]
        cases (cond (!(decide (v≥r.1.Lo)&&decide (v≤r.1.Hi))) true (v==lo'))<;>rfl
      ·rw [show (decide (v≥r.1.Lo)&&decide (v≤r.1.Hi))=false by rw [Bool.and_eq_false_iff,decide_eq_false_iff_not,decide_eq_false_iff_not];omega]
       rfl
     rw [el,eh,q3,hwn]
     simp only [beq_self_eq_true,Bool.and_self,cond_true,optG_true,awake,Option.bind_some]
 ·have hb:((chk c).2.2==0)=false:=by simpa using h
  rw [hb,if_pos (by rfl),awake]
  rfl
end Go.Proofs.Ytallnifoeahpiaa
