/- The law EdgeWider. -/
import Derived.Test.YtallnifoeahpiaaP7
import Derived.Test.YtallnifoeahpiaaDLK
namespace Go.Proofs.Ytallnifoeahpiaa
open Go Go.Sx
set_option linter.all false
def wdS (a b:Int) (s:Sh):Sh:=⟨s.Name,if s.Weight-b>0 then s.Weight-b else 0,if s.Most+a<6 then s.Most+a else 6⟩
def wide (t a b:Int) (c:Cs):Cs:=⟨if c.Tol+t<50 then c.Tol+t else 50,c.Sheets.map (wdS a b),c.Edges⟩
theorem map_get {α β:Type} [Inhabited α] [Inhabited β] {f:α→β} {l:List α} {i:Nat} (h:i<l.length):(l.map f)[i]! = f l[i]! := by
 rw [getElem!_pos _ i (by simpa using h),getElem!_pos l i h];simp
theorem wide_len {t a b:Int} {c:Cs}:(wide t a b c).Sheets.length=c.Sheets.length:=by simp [wide]
theorem wide_chk {t a b:Int} {c:Cs} (h:(chk c).2.2=0) (ht:0≤t) (ha:0≤a) (hb:0≤b):(chk (wide t a b c)).2.2=0:=by
 have hc:=chk_zero.1 h
 refine chk_zero.2 ⟨?_,by rw [wide_len];exact hc.2.1,hc.2.2.1,?_,fun s hs=>?_,by rw [wide_len];exact hc.2.2.2.2.2⟩
 ·have:=hc.1
  simp only [wide]
  split<;>omega
 ·have:(wide t a b c).Sheets.map (·.Name)=c.Sheets.map (·.Name):=by simp [wide,wdS]
  rw [this];exact hc.2.2.2.1
 ·simp only [wide,List.mem_map] at hs
  obtain ⟨x,hx,rfl⟩:=hs
  have:=hc.2.2.2.2.1 x hx
  simp only [wdS]
  refine ⟨?_,?_,?_,?_⟩<;>split<;>omega
theorem wide_ag {t a b:Int} {c:Cs} (h:(chk c).2.2=0) (ht:0≤t) (ha:0≤a) (hb:0≤b) {x:List Int} (hx:Ag c x):Ag (wide t a b c) x:=by
 have hv:=chk_val (chk_err h)
 have hw:=chk_val (chk_err (wide_chk h ht ha hb))
 refine ⟨by rw [wide_len];exact hx.1,fun i hi=>?_,fun i hi hk=>?_⟩
 ·rw [wide_len] at hi
  have h1:=hx.2.box i hi
  have h2:=most_ok hv hi
  rw [show (wide t a b c).Sheets[i]! = wdS a b c.Sheets[i]! from map_get hi]
  simp only [wdS]
  split<;>omega
 ·have h1:=hx.2.eg i hi hk
  have hm:c.Edges[i]! ∈ c.Edges:=mem_get hi
  have h2:=(want_iff hv hm _).1 h1
  have h3:=hv.tol
  refine (want_iff hw hm (x[c.Edges[i]!.A.toNat]! - x[c.Edges[i]!.B.toNat]!)).2 fun p hp=>?_
  have h4:=h2 p hp
  have e:(wide t a b c).Tol=if c.Tol+t<50 then c.Tol+t else 50:=rfl
  rw [e]
  split<;>omega
theorem wide_cost {t a b:Int} {c:Cs} (h:(chk c).2.2=0) (hb:0≤b) (x:List Int):cost (wide t a b c) x≤cost c x:=by
 have hv:=chk_val (chk_err h)
 unfold cost
 rw [wide_len]
 refine sumN_le fun i hi=>?_
 have h2:=most_ok hv hi
 rw [show (wide t a b c).Sheets[i]! = wdS a b c.Sheets[i]! from map_get hi]
 refine Int.mul_le_mul_of_nonneg_right ?_ (absI_nonneg _)
 simp only [wdS]
 split<;>omega
theorem e13L1 {k:Nat} {c:Cs} (hk:10≤k) (hv:Val c) {by_:S__3quint8} (h1:0≤by_.e1∧by_.e1≤255) (h2:0≤by_.e2∧by_.e2≤255):F13L1 c by_ k (0,[])=some (.inr (c.Sheets.map (wdS (by_.e1.tmod 3) (by_.e2.tmod 4)))):=by
 have hs:=hv.sheets
 have t1:=tmod_in (m:=3) h1.1 (by omega)
 have t2:=tmod_in (m:=4) h2.1 (by omega)
 have h:=for_fold (l:=c.Sheets) (L:=F13L1 c by_) (β:=Bool) (σ:=List Sh) (fun i s=>((i:Int),s)) (fun s=>s) (fun _ x s=>s++[wdS (by_.e1.tmod 3) (by_.e2.tmod 4) x]) (fun i s=>s.length=i)
  (fun i s hi hp=>by simp [hp])
  (fun n i s hi hp=>by
   have hmo:=most_ok hv hi
   rw [F13L1]
   dsimp only
   rw [if_pos (by simp;omega),idx_nat hi,Option.bind_some,i64_id (n:=by_.e1) (by omega) (by omega),i64_id (n:=by_.e2) (by omega) (by omega),w64_id (n:=c.Sheets[i]!.Weight-_) (by omega) (by omega),w64_id (n:=c.Sheets[i]!.Most+_) (by omega) (by omega),need_true (by simp only [List.length_cons,List.length_nil];omega),Option.bind_some,w64_id (n:=(i:Int)+1) (by omega) (by omega)]
   rfl)
  (fun n s _=>by rw [F13L1,if_neg (by simp)]) k [] rfl (by omega)
 rw [show ((0:Int),([]:List Sh))=(((0:Nat):Int),[]) from rfl,h]
 congr 2
 have hm:∀(l:List Sh) (i:Nat) (s:List Sh),foldI (fun _ x s=>s++[wdS (by_.e1.tmod 3) (by_.e2.tmod 4) x]) l i s=s++l.map (wdS (by_.e1.tmod 3) (by_.e2.tmod 4)):=by
  intro l
  induction l with
  | nil=>intro i s;simp [foldI]
  | cons x l ih=>intro i s;rw [foldI,ih];simp
 rw [hm,List.nil_append]
theorem law13 (c:Cs) (by_:S__3quint8) (which:Int) (h0:0≤by_.e0∧by_.e0≤255) (h1:0≤by_.e1∧by_.e1≤255) (h2:0≤by_.e2∧by_.e2≤255) (hw:0≤which∧which≤255):F13 1000 c by_ which=some true:=by
 unfold F13
 rw [e36 (by omega),Option.bind_some]
 by_cases h:(chk c).2.2=0
 ·have hv:=chk_val (chk_err h)
  have hs:=hv.sheets
  have hb:((chk c).2.2==0)=true:=by simpa using h
  obtain ⟨i0,i1⟩:=tmod_in (n:=which) (m:=(c.Sheets.length:Int)) hw.1 (by omega)
  have t0:=tmod_in (m:=5) h0.1 (by omega)
  have t1:=tmod_in (m:=3) h1.1 (by omega)
  have t2:=tmod_in (m:=4) h2.1 (by omega)
  rw [hb,if_neg (by simp),e13L1 (by omega) hv h1 h2,Option.bind_some]
  simp only [outK]
  rw [need_true (by omega),Option.bind_some,i64_id (n:=which) (by omega) (by omega),i64_id (n:=by_.e0) (by omega) (by omega),w64_id (n:=c.Tol+_) (by have:=hv.tol;omega) (by have:=hv.tol;omega)]
  rw [show (⟨(if c.Tol+by_.e0.tmod 5<50 then c.Tol+by_.e0.tmod 5 else 50),c.Sheets.map (wdS (by_.e1.tmod 3) (by_.e2.tmod 4)),c.Edges⟩:S_api_EdCase)=wide (by_.e0.tmod 5) (by_.e1.tmod 3) (by_.e2.tmod 4) c from rfl]
  have hch:=wide_chk h t0.1 t1.1 t2.1
  have hag:∀{x:List Int},Ag c x→Ag (wide (by_.e0.tmod 5) (by_.e1.tmod 3) (by_.e2.tmod 4) c) x:=fun hx=>wide_ag h t0.1 t1.1 t2.1 hx
  have hco:=wide_cost (t:=by_.e0.tmod 5) (a:=by_.e1.tmod 3) h t2.1
  have hl:(wide (by_.e0.tmod 5) (by_.e1.tmod 3) (by_.e2.tmod 4) c).Sheets.length=c.Sheets.length:=wide_len
  generalize wide (by_.e0.tmod 5) (by_.e1.tmod 3) (by_.e2.tmod 4) c=d at *
  obtain ⟨r,r1,r2⟩:=range_in (k:=1000) (by omega) h i0 i1
  obtain ⟨q,q1,q2⟩:=range_in (k:=1000) (by omega) hch i0 (by rw [hl];exact i1)
  obtain ⟨s,s1,s2⟩:=least_in (k:=1000) (by omega) h
  obtain ⟨u,u1,u2⟩:=least_in (k:=1000) (by omega) hch
  rw [r1,Option.bind_some,q1,Option.bind_some,s1,Option.bind_some,u1,Option.bind_some]
  rcases r2 with ⟨r3,rfl⟩|⟨r3,⟨x,x1,x2⟩,⟨y,y1,y2⟩,r4⟩
  ·rw [if_pos (by simp)]
   rcases s2 with ⟨s3,rfl⟩|⟨_,_,s3,_⟩
   ·rcases q2 with ⟨q3,rfl⟩|⟨q3,⟨z,z1,_⟩,_⟩
    ·rcases u2 with ⟨u3,rfl⟩|⟨_,_,u3,_⟩
     ·simp only [awake];rfl
     ·exact absurd u3 (q3 _)
    ·rcases u2 with ⟨u3,rfl⟩|⟨u4,_,u3,_⟩
     ·exact absurd z1 (u3 _)
     ·simp only [q3,u4,awake];rfl
   ·exact absurd s3 (r3 _)
  ·rcases s2 with ⟨s3,rfl⟩|⟨s4,s5,s3,s6⟩
   ·exact absurd x1 (s3 _)
   ·rcases q2 with ⟨q3,rfl⟩|⟨q3,_,_,q4⟩
    ·exact absurd (hag x1) (q3 _)
    ·rcases u2 with ⟨u3,rfl⟩|⟨u4,u5,u3,u6⟩
     ·exact absurd (hag x1) (u3 _)
     ·rw [if_neg (by simp [r3])]
      have a1:=q4 x (hag x1)
      have a2:=q4 y (hag y1)
      have a3:=(u6 _ (hag s3)).1
      have a4:=hco s.1
      unfold F13e1
      rw [q3,s4,u4,decide_eq_true (show q.1.Lo≤r.1.Lo by omega),decide_eq_true (show q.1.Hi≥r.1.Hi by omega),decide_eq_true (show u.2.1≤s.2.1 by omega)]
      simp only [awake];rfl
 ·have hb:((chk c).2.2==0)=false:=by simpa using h
  rw [hb,if_pos (by rfl),awake]
  rfl
end Go.Proofs.Ytallnifoeahpiaa
